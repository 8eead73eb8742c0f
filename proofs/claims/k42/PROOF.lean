import PyProof.Rows.All
import Wide.All
import OpenK.AllK
import Wide.FinOn
import HandS.ForMost
import HandS.Walk
import HandS.IsInst
import HandS.Flow
import HandS.Replace
import HandS.TupAny
import HandS.Style
import HandS.Zip
import HandS.Wide
import KE.GoesNew
import HandS.DictComp
import HandS.TryOnly
import HandS.SortKw
import KE.DataMinMax
import KE.GoesEnum
import HandS.TupMul
import PyProof.StrOps2
import HandS.SortRule
import HandS.WordsDict
import PyProof.DictCompW
import HandS.SortInts
import HandS.DictTup
import KE.KSortTupAny
import OpenK.KOps
import HandS.Deep
import PySem.Challenge.RW_liftcord_k42_whole_paid_and_still_left
set_option Elab.async false
set_option linter.all false
set_option maxRecDepth 100000
set_option maxHeartbeats 4000000

/-! DL1: data trees, the stable part of the heap, judgments over data. -/
namespace DL
open PySem PySem.Spec PyProof.Rows L2

/-- data -/
inductive Da where
  | a (v : V) | lst (l : List Da) | tup (l : List Da) | dk (l : List (Key × V)) | dt (l : List (List Key × V)) | drw | scr (ns : List Int)
abbrev tx (l : List Nat) : Str := ⟨l.toArray⟩
abbrev Da.int (i : Int) : Da := .a (.int i)
abbrev Da.bl (b : Bool) : Da := .a (.bl b)
abbrev Da.non : Da := .a .non
abbrev Da.str (x : Str) : Da := .a (.str x)

/-- the list of draws, whatever it holds -/
def Drw (p : Addr) (h : Heap) : Prop := ∃ (n : Nat) (x y : Int) (t u : Tok), h.get? p = some { cls := .type "list", data := .seq #[.int x t, .int y u] n } ∧ 0 ≤ y ∧ y < 2147483648

mutual
inductive Rp (K : PySem.W.Frag) (H : Hp) : Da → V → Prop
  | a (v : V) : Rp K H (.a v) v
  | lst {p : Addr} {vs : List V} {ds : List Da} : H p = some (.lst vs) → RpAll K H ds vs → Rp K H (.lst ds) (.ref p)
  | tup {p : Addr} {vs : List V} {ds : List Da} : H p = some (.tup vs) → RpAll K H ds vs → Rp K H (.tup ds) (.ref p)
  | dk {p : Addr} {kvs : List (Key × V)} : H p = some (.dK kvs) → Rp K H (.dk kvs) (.ref p)
  | dt {p : Addr} {kvs : List (List Key × V)} : Rd H p (.dT kvs) → Rp K H (.dt kvs) (.ref p)
  | drw {p : Addr} : H p = some (.ext (Drw p)) → Rp K H .drw (.ref p)
  | scr {p : Addr} {ns : List Int} : SqL K H p (ns.map V.int) → Rp K H (.scr ns) (.ref p)
inductive RpAll (K : PySem.W.Frag) (H : Hp) : List Da → List V → Prop
  | nil : RpAll K H [] []
  | cons {d : Da} {ds : List Da} {v : V} {vs : List V} : Rp K H d v → RpAll K H ds vs → RpAll K H (d :: ds) (v :: vs)
end

section
variable {K : PySem.W.Frag} {H H' : Hp}
theorem rdS {p : Addr} {u : HO} (e : Same H H') (h : Rd H p u) : Rd H' p u := by
  rcases h with h | ⟨o, h⟩
  · exact .inl (e _ _ h)
  · exact .inr ⟨o, e _ _ h⟩
theorem sqlS {p : Addr} {xs : List V} (e : Same H H') (h : SqL K H p xs) : SqL K H' p xs := e.seq h
theorem sqtS {p : Addr} {xs : List V} (e : Same H H') (h : SqT K H p xs) : SqT K H' p xs := by
  rcases h with h | h
  · exact .inl (rdS e h)
  · exact .inr h
mutual
theorem Rp.mono (e : Same H H') : ∀ {d : Da} {v : V}, Rp K H d v → Rp K H' d v
  | _, _, .a v => .a v
  | _, _, .lst h r => .lst (e _ _ h) (RpAll.mono e r)
  | _, _, .tup h r => .tup (e _ _ h) (RpAll.mono e r)
  | _, _, .dk h => .dk (e _ _ h)
  | _, _, .dt h => .dt (rdS e h)
  | _, _, .drw h => .drw (e _ _ h)
  | _, _, .scr h => .scr (sqlS e h)
theorem RpAll.mono (e : Same H H') : ∀ {ds : List Da} {vs : List V}, RpAll K H ds vs → RpAll K H' ds vs
  | _, _, .nil => .nil
  | _, _, .cons r t => .cons (Rp.mono e r) (RpAll.mono e t)
end
theorem RpAll.len : ∀ {ds : List Da} {vs : List V}, RpAll K H ds vs → ds.length = vs.length
  | _, _, .nil => rfl
  | _, _, .cons _ t => congrArg (· + 1) (RpAll.len t)
theorem RpAll.get : ∀ {ds : List Da} {vs : List V} {i : Nat} {d : Da}, RpAll K H ds vs → ds[i]? = some d → ∃ v, vs[i]? = some v ∧ Rp K H d v
  | _, _, _, _, .nil, e => by simp at e
  | _, _, 0, _, .cons r _, e => by simp at e; subst e; exact ⟨_, rfl, r⟩
  | _, _, i + 1, d, .cons _ t, e => by
    obtain ⟨v, h1, h2⟩ := RpAll.get (i := i) (d := d) t (by simpa using e)
    exact ⟨v, by simpa using h1, h2⟩
theorem RpAll.getV : ∀ {ds : List Da} {vs : List V} {i : Nat} {v : V}, RpAll K H ds vs → vs[i]? = some v → ∃ d, ds[i]? = some d ∧ Rp K H d v
  | _, _, _, _, .nil, e => by simp at e
  | _, _, 0, _, .cons r _, e => by simp at e; subst e; exact ⟨_, rfl, r⟩
  | _, _, i + 1, d, .cons _ t, e => by
    obtain ⟨v, h1, h2⟩ := RpAll.getV (i := i) (v := d) t (by simpa using e)
    exact ⟨v, by simpa using h1, h2⟩
theorem RpAll.app : ∀ {ds es : List Da} {vs ws : List V}, RpAll K H ds vs → RpAll K H es ws → RpAll K H (ds ++ es) (vs ++ ws)
  | _, _, _, _, .nil, s => s
  | _, _, _, _, .cons r t, s => .cons r (RpAll.app t s)
theorem RpAll.take : ∀ {ds : List Da} {vs : List V} (n : Nat), RpAll K H ds vs → RpAll K H (ds.take n) (vs.take n)
  | _, _, 0, _ => by simpa using RpAll.nil
  | _, _, _ + 1, .nil => .nil
  | _, _, n + 1, .cons r t => .cons r (RpAll.take n t)
theorem RpAll.drop : ∀ {ds : List Da} {vs : List V} (n : Nat), RpAll K H ds vs → RpAll K H (ds.drop n) (vs.drop n)
  | _, _, 0, h => by simpa using h
  | _, _, _ + 1, .nil => .nil
  | _, _, n + 1, .cons r t => RpAll.drop n t
theorem RpAll.rev : ∀ {ds : List Da} {vs : List V}, RpAll K H ds vs → RpAll K H ds.reverse vs.reverse
  | _, _, .nil => .nil
  | _, _, .cons r t => by
    rw [List.reverse_cons, List.reverse_cons]
    exact (RpAll.rev t).app (.cons r .nil)
theorem RpAll.dropLast {ds : List Da} {vs : List V} (h : RpAll K H ds vs) : RpAll K H ds.dropLast vs.dropLast := by
  rw [List.dropLast_eq_take, List.dropLast_eq_take, ← h.len]
  exact h.take _
theorem RpAll.set : ∀ {ds : List Da} {vs : List V} (n : Nat) {d : Da} {v : V}, RpAll K H ds vs → Rp K H d v → RpAll K H (ds.set n d) (vs.set n v)
  | _, _, _, _, _, .nil, _ => .nil
  | _, _, 0, _, _, .cons _ t, r => .cons r t
  | _, _, n + 1, _, _, .cons r t, q => .cons r (RpAll.set n t q)
theorem RpAll.atoms : ∀ {xs vs : List V}, RpAll K H (xs.map Da.a) vs → vs = xs
  | [], _, .nil => rfl
  | x :: xs, _, .cons r t => by
    cases r
    rw [RpAll.atoms t]
theorem RpAll.ofAtoms : ∀ (xs : List V), RpAll K H (xs.map Da.a) xs
  | [] => .nil
  | x :: xs => .cons (.a x) (RpAll.ofAtoms xs)
theorem Rp.atom {x v : V} (h : Rp K H (.a x) v) : v = x := by
  cases h
  rfl
theorem Rp.lst_inv {ds : List Da} {v : V} (h : Rp K H (.lst ds) v) : ∃ p vs, v = .ref p ∧ H p = some (.lst vs) ∧ RpAll K H ds vs := by
  cases h with
  | lst h r => exact ⟨_, _, rfl, h, r⟩
theorem Rp.tup_inv {ds : List Da} {v : V} (h : Rp K H (.tup ds) v) : ∃ p vs, v = .ref p ∧ H p = some (.tup vs) ∧ RpAll K H ds vs := by
  cases h with
  | tup h r => exact ⟨_, _, rfl, h, r⟩
theorem Rp.dk_inv {kvs : List (Key × V)} {v : V} (h : Rp K H (.dk kvs) v) : ∃ p, v = .ref p ∧ H p = some (.dK kvs) := by
  cases h with
  | dk h => exact ⟨_, rfl, h⟩
theorem Rp.dt_inv {kvs : List (List Key × V)} {v : V} (h : Rp K H (.dt kvs) v) : ∃ p, v = .ref p ∧ Rd H p (.dT kvs) := by
  cases h with
  | dt h => exact ⟨_, rfl, h⟩
theorem Rp.drw_inv {v : V} (h : Rp K H .drw v) : ∃ p, v = .ref p ∧ H p = some (.ext (Drw p)) := by
  cases h with
  | drw h => exact ⟨_, rfl, h⟩
end

/-! ### the stable part of the heap -/
structure Go (Hs H Hs' H' : Hp) : Prop where
  ss : Same Hs Hs'
  hh : Same H H'
  sub : Same Hs' H'
  no : ∀ p, H p ≠ none → Hs p = none → Hs' p = none
section
variable {Hs H Hs1 H1 Hs2 H2 : Hp}
theorem Go.refl (h : Same Hs H) : Go Hs H Hs H := ⟨Same.refl _, Same.refl _, h, fun _ _ h => h⟩
theorem same_ne {H H' : Hp} (e : Same H H') {p : Addr} (h : H p ≠ none) : H' p ≠ none := by
  cases q : H p with
  | none => exact absurd q h
  | some o => rw [e p o q]; exact fun z => nomatch z
theorem Go.trans (a : Go Hs H Hs1 H1) (b : Go Hs1 H1 Hs2 H2) : Go Hs H Hs2 H2 :=
  ⟨a.ss.trans b.ss, a.hh.trans b.hh, b.sub, fun p hp hs => b.no p (same_ne a.hh hp) (a.no p hp hs)⟩
theorem same_upd {H : Hp} {p : Addr} {o : HO} (h : H p = none) : Same H (upd H p o) := fun b x e => by
  rw [upd_ne (ne_of_none e h)]
  exact e
theorem same_upd2 {H H' : Hp} {p : Addr} {o : HO} (e : Same H H') : Same (upd H p o) (upd H' p o) := fun b x q => by
  by_cases hb : b = p
  · subst hb; rw [upd_same] at q ⊢; exact q
  · rw [upd_ne hb] at q ⊢; exact e b x q
/-- a new object, stable -/
theorem Go.new (h : Same Hs H) {p : Addr} {o : HO} (hp : H p = none) : Go Hs H (upd Hs p o) (upd H p o) :=
  ⟨same_upd (h.free hp), same_upd hp, same_upd2 h, fun q hq hs => by
    rw [upd_ne (fun z => by rw [z] at hq; exact hq hp)]
    exact hs⟩
/-- a new object, not stable -/
theorem Go.own (h : Same Hs H) {p : Addr} {o : HO} (hp : H p = none) : Go Hs H Hs (upd H p o) :=
  ⟨Same.refl _, same_upd hp, h.trans (same_upd hp), fun _ _ hs => hs⟩
/-- an object that is not of the stable part, nor of the base, changes -/
theorem Go.mut (g : Go Hs H Hs1 H1) {p : Addr} {o : HO} (hp : H p = none) (hs : Hs1 p = none) : Go Hs H Hs1 (upd H1 p o) :=
  ⟨g.ss, fun b x e => by rw [upd_ne (ne_of_none e hp)]; exact g.hh b x e, fun b x e => by rw [upd_ne (ne_of_none e hs)]; exact g.sub b x e, g.no⟩
/-- .. becomes stable -/
theorem Go.freeze (g : Go Hs H Hs1 H1) {p : Addr} {o : HO} (hp : H p = none) (hs : Hs1 p = none) (h1 : H1 p = some o) : Go Hs H (upd Hs1 p o) H1 :=
  ⟨g.ss.trans (same_upd hs), g.hh, fun b x e => by
    by_cases hb : b = p
    · subst hb; rw [upd_same] at e; rw [h1]; exact e
    · rw [upd_ne hb] at e; exact g.sub b x e, fun q hq hn => by
    rw [upd_ne (fun z => by rw [z] at hq; exact hq hp)]
    exact g.no q hq hn⟩
end

/-! ### an object: its class, the fields ground and now that hold data, the field former that holds a list which changes -/
structure HSt where
  a : Addr
  la : Addr
  C : Addr
  d1 : Da
  d2 : Da
  l3 : List Da
/-- it stands in B at s.a, its list at s.la, outside the stable part Hs in which its data lie -/
def ObjAt (K : PySem.W.Frag) (Hs B : Hp) (s : HSt) : Prop := ∃ dx v1 v2 vs, B s.a = some (.ins s.C dx [("ground", v1), ("now", v2), ("former", .ref s.la)]) ∧ B s.la = some (.lst vs) ∧ Hs s.a = none ∧ Hs s.la = none ∧ Rp K Hs s.d1 v1 ∧ Rp K Hs s.d2 v2 ∧ RpAll K Hs s.l3 vs
theorem ObjAt.mono {K : PySem.W.Frag} {Hs B H Hs' H' : Hp} {s : HSt} (h : ObjAt K Hs B s) (e : Same B H) (g : Go Hs H Hs' H') : ObjAt K Hs' B s := by
  obtain ⟨dx, v1, v2, vs, h1, h2, h3, h4, r1, r2, r3⟩ := h
  exact ⟨dx, v1, v2, vs, h1, h2, g.no s.a (by rw [e s.a _ h1]; exact fun z => nomatch z) h3, g.no s.la (by rw [e s.la _ h2]; exact fun z => nomatch z) h4, r1.mono g.ss, r2.mono g.ss, r3.mono g.ss⟩
/-! ### slots -/
inductive SD where
  | d (d : Da) | b (d : Da) | ol (l : List Da) | ok (l : List (Key × V)) | ot (l : List (List Key × V)) | hb (s : HSt)
abbrev Sg := List (Option SD)
def SD.own : SD → Bool
  | .ol _ => true
  | .ok _ => true
  | .ot _ => true
  | _ => false
/-- what stands in a slot: data of the stable part, borrowed data (of the base), an own list or dict -/
def SlotOk (K : PySem.W.Frag) (B Hs H : Hp) : SD → V → Prop
  | .d d, v => Rp K Hs d v
  | .b d, v => Rp K B d v
  | .ol l, v => ∃ p vs, v = .ref p ∧ Hs p = none ∧ H p = some (.lst vs) ∧ RpAll K Hs l vs
  | .ok l, v => ∃ p, v = .ref p ∧ Hs p = none ∧ H p = some (.dK l)
  | .ot l, v => ∃ p, v = .ref p ∧ Hs p = none ∧ H p = some (.dT l)
  | .hb s, v => v = .ref s.a ∧ ObjAt K Hs B s
structure Ok (K : PySem.W.Frag) (Bs B Hs H : Hp) (σ : L2.St) (δ : Sg) : Prop where
  go : Go Bs B Hs H
  slot : ∀ (i : Nat) (s : SD), δ[i]? = some (some s) → ∃ v, σ[i]? = some (some v) ∧ SlotOk K B Hs H s v
  len : σ.length = δ.length
  fr : ∀ (i : Nat) (s : SD) (p : Addr), δ[i]? = some (some s) → s.own = true → σ[i]? = some (some (.ref p)) → B p = none
  ap : ∀ (i j : Nat) (s t : SD) (p : Addr), δ[i]? = some (some s) → δ[j]? = some (some t) → s.own = true → t.own = true → σ[i]? = some (some (.ref p)) → σ[j]? = some (some (.ref p)) → i = j
section
variable {K : PySem.W.Frag} {Bs B Hs H Hs' H' : Hp} {σ : L2.St} {δ : Sg}
theorem Ok.sub (o : Ok K Bs B Hs H σ δ) : Same Hs H := o.go.sub
theorem Ok.mono (o : Ok K Bs B Hs H σ δ) (g : Go Hs H Hs' H') : Ok K Bs B Hs' H' σ δ := by
  refine ⟨o.go.trans g, fun i s e => ?_, o.len, o.fr, o.ap⟩
  obtain ⟨v, h1, h2⟩ := o.slot i s e
  refine ⟨v, h1, ?_⟩
  cases s with
  | d d => exact Rp.mono g.ss h2
  | b d => exact h2
  | ol l =>
    obtain ⟨p, vs, e1, e2, e3, e4⟩ := h2
    exact ⟨p, vs, e1, g.no p (by rw [e3]; exact fun z => nomatch z) e2, g.hh p _ e3, e4.mono g.ss⟩
  | ok l =>
    obtain ⟨p, e1, e2, e3⟩ := h2
    exact ⟨p, e1, g.no p (by rw [e3]; exact fun z => nomatch z) e2, g.hh p _ e3⟩
  | ot l =>
    obtain ⟨p, e1, e2, e3⟩ := h2
    exact ⟨p, e1, g.no p (by rw [e3]; exact fun z => nomatch z) e2, g.hh p _ e3⟩
  | hb s => exact ⟨h2.1, h2.2.mono o.go.hh g⟩
theorem set_none_key {i j : Nat} {s : SD} (e : (δ.set i none)[j]? = some (some s)) : j ≠ i ∧ δ[j]? = some (some s) := by
  by_cases hj : j = i
  · subst hj
    rw [List.getElem?_set] at e
    simp at e
  · rw [List.getElem?_set_ne (Ne.symm hj)] at e
    exact ⟨hj, e⟩
theorem set_some_key {i j : Nat} {s s0 : SD} (e : (δ.set i (some s0))[j]? = some (some s)) : (j ≠ i ∧ δ[j]? = some (some s)) ∨ (j = i ∧ s = s0 ∧ i < δ.length) := by
  by_cases hj : j = i
  · subst hj
    rw [List.getElem?_set] at e
    simp at e
    exact .inr ⟨rfl, e.2.symm, e.1⟩
  · rw [List.getElem?_set_ne (Ne.symm hj)] at e
    exact .inl ⟨hj, e⟩
/-- a slot forgotten -/
theorem Ok.wipe1 (o : Ok K Bs B Hs H σ δ) (i : Nat) (w : Option V) : Ok K Bs B Hs H (σ.set i w) (δ.set i none) := by
  refine ⟨o.go, fun j s e => ?_, by simp [o.len], fun j s p e q e2 => ?_, fun j k s t p e1 e2 q1 q2 e3 e4 => ?_⟩
  · obtain ⟨hj, e⟩ := set_none_key e
    rw [List.getElem?_set_ne (Ne.symm hj)]
    exact o.slot j s e
  · obtain ⟨hj, e⟩ := set_none_key e
    rw [List.getElem?_set_ne (Ne.symm hj)] at e2
    exact o.fr j s p e q e2
  · obtain ⟨hj, e1⟩ := set_none_key e1
    obtain ⟨hk, e2⟩ := set_none_key e2
    rw [List.getElem?_set_ne (Ne.symm hj)] at e3
    rw [List.getElem?_set_ne (Ne.symm hk)] at e4
    exact o.ap j k s t p e1 e2 q1 q2 e3 e4
/-- data stored -/
theorem Ok.setD (o : Ok K Bs B Hs H σ δ) (i : Nat) {d : Da} {v : V} (r : Rp K Hs d v) : Ok K Bs B Hs H (σ.set i (some v)) (δ.set i (some (.d d))) := by
  refine ⟨o.go, fun j s e => ?_, by simp [o.len], fun j s p e q e2 => ?_, fun j k s t p e1 e2 q1 q2 e3 e4 => ?_⟩
  · rcases set_some_key e with ⟨hj, e⟩ | ⟨rfl, rfl, hl⟩
    · rw [List.getElem?_set_ne (Ne.symm hj)]
      exact o.slot j s e
    · exact ⟨v, by rw [List.getElem?_set_self (by rw [o.len]; exact hl)], r⟩
  · rcases set_some_key e with ⟨hj, e⟩ | ⟨rfl, rfl, hl⟩
    · rw [List.getElem?_set_ne (Ne.symm hj)] at e2
      exact o.fr j s p e q e2
    · cases q
  · rcases set_some_key e1 with ⟨hj, e1⟩ | ⟨rfl, rfl, hl⟩
    · rcases set_some_key e2 with ⟨hk, e2⟩ | ⟨rfl, rfl, hl⟩
      · rw [List.getElem?_set_ne (Ne.symm hj)] at e3
        rw [List.getElem?_set_ne (Ne.symm hk)] at e4
        exact o.ap j k s t p e1 e2 q1 q2 e3 e4
      · cases q2
    · cases q1
/-- an own object stored: new at p -/
theorem Ok.setO (o : Ok K Bs B Hs H σ δ) (i : Nat) {s0 : SD} {ho : HO} {p : Addr} (hp : H p = none) (r : SlotOk K B Hs (upd H p ho) s0 (.ref p)) :
    Ok K Bs B Hs (upd H p ho) (σ.set i (some (.ref p))) (δ.set i (some s0)) := by
  have o1 : Ok K Bs B Hs (upd H p ho) σ δ := o.mono (Go.own o.sub hp)
  -- an own slot of before is not at p
  have np : ∀ {j : Nat} {s : SD}, δ[j]? = some (some s) → s.own = true → σ[j]? ≠ some (some (V.ref p)) := fun {j s} e q z => by
    obtain ⟨v, h1, h2⟩ := o.slot j s e
    rw [z] at h1
    cases h1
    cases s with
    | d d => cases q
    | b d => cases q
    | ol l => obtain ⟨_, _, e1, _, e3, _⟩ := h2; cases e1; rw [hp] at e3; cases e3
    | ok l => obtain ⟨_, e1, _, e3⟩ := h2; cases e1; rw [hp] at e3; cases e3
    | ot l => obtain ⟨_, e1, _, e3⟩ := h2; cases e1; rw [hp] at e3; cases e3
    | hb s => cases q
  refine ⟨o1.go, fun j s e => ?_, by simp [o.len], fun j s q e w e2 => ?_, fun j k s t q e1 e2 q1 q2 e3 e4 => ?_⟩
  · rcases set_some_key e with ⟨hj, e⟩ | ⟨rfl, rfl, hl⟩
    · rw [List.getElem?_set_ne (Ne.symm hj)]
      exact o1.slot j s e
    · exact ⟨_, by rw [List.getElem?_set_self (by rw [o.len]; exact hl)], r⟩
  · rcases set_some_key e with ⟨hj, e⟩ | ⟨rfl, rfl, hl⟩
    · rw [List.getElem?_set_ne (Ne.symm hj)] at e2
      exact o.fr j s q e w e2
    · rw [List.getElem?_set_self (by rw [o.len]; exact hl)] at e2
      cases e2
      exact o.go.hh.free hp
  · rcases set_some_key e1 with ⟨hj, f1⟩ | ⟨rfl, rfl, hl⟩
    · rw [List.getElem?_set_ne (Ne.symm hj)] at e3
      rcases set_some_key e2 with ⟨hk, e2⟩ | ⟨rfl, rfl, hl⟩
      · rw [List.getElem?_set_ne (Ne.symm hk)] at e4
        exact o.ap j k s t q f1 e2 q1 q2 e3 e4
      · rw [List.getElem?_set_self (by rw [o.len]; exact hl)] at e4
        cases e4
        exact absurd e3 (np f1 q1)
    · rw [List.getElem?_set_self (by rw [o.len]; exact hl)] at e3
      cases e3
      rcases set_some_key e2 with ⟨hk, e2⟩ | ⟨rfl, rfl, hl⟩
      · rw [List.getElem?_set_ne (Ne.symm hk)] at e4
        exact absurd e4 (np e2 q2)
      · rfl
/-- an own object changed: the content at p, held by slot i -/
theorem Ok.chg (o : Ok K Bs B Hs H σ δ) {i : Nat} {s0 s1 : SD} {ho : HO} {p : Addr} (hi : δ[i]? = some (some s0)) (ow : s0.own = true) (ow1 : s1.own = true) (hv : σ[i]? = some (some (.ref p))) (hs : Hs p = none)
    (r : SlotOk K B Hs (upd H p ho) s1 (.ref p)) : Ok K Bs B Hs (upd H p ho) σ (δ.set i (some s1)) := by
  have bp := o.fr i s0 p hi ow hv
  refine ⟨o.go.mut bp hs, fun j s e => ?_, by simp [o.len], fun j s q e w e2 => ?_, fun j k s t q e1 e2 q1 q2 e3 e4 => ?_⟩
  · rcases set_some_key e with ⟨hj, e⟩ | ⟨rfl, rfl, hl⟩
    · obtain ⟨v, h1, h2⟩ := o.slot j s e
      refine ⟨v, h1, ?_⟩
      cases s with
      | d d => exact h2
      | b d => exact h2
      | ol l =>
        obtain ⟨q, vs, e1, e2, e3, e4⟩ := h2
        subst e1
        have nq : q ≠ p := fun z => hj (o.ap j i _ _ p e hi rfl ow (by rw [← z]; exact h1) hv)
        exact ⟨q, vs, rfl, e2, by rw [upd_ne nq]; exact e3, e4⟩
      | ok l =>
        obtain ⟨q, e1, e2, e3⟩ := h2
        subst e1
        have nq : q ≠ p := fun z => hj (o.ap j i _ _ p e hi rfl ow (by rw [← z]; exact h1) hv)
        exact ⟨q, rfl, e2, by rw [upd_ne nq]; exact e3⟩
      | ot l =>
        obtain ⟨q, e1, e2, e3⟩ := h2
        subst e1
        have nq : q ≠ p := fun z => hj (o.ap j i _ _ p e hi rfl ow (by rw [← z]; exact h1) hv)
        exact ⟨q, rfl, e2, by rw [upd_ne nq]; exact e3⟩
      | hb s => exact h2
    · exact ⟨_, hv, r⟩
  · rcases set_some_key e with ⟨hj, e⟩ | ⟨rfl, rfl, hl⟩
    · exact o.fr j s q e w e2
    · exact o.fr j s0 q hi ow e2
  · rcases set_some_key e1 with ⟨hj, f1⟩ | ⟨rfl, rfl, hl⟩
    · rcases set_some_key e2 with ⟨hk, e2⟩ | ⟨rfl, rfl, hl⟩
      · exact o.ap j k s t q f1 e2 q1 q2 e3 e4
      · exact o.ap j _ s s0 q f1 hi q1 ow e3 e4
    · rcases set_some_key e2 with ⟨hk, e2⟩ | ⟨rfl, rfl, hl⟩
      · exact o.ap _ k s0 t q hi e2 ow q2 e3 e4
      · rfl
/-- an object that no slot holds changes -/
theorem Ok.other (o : Ok K Bs B Hs H σ δ) {p : Addr} {ho : HO} (hs : Hs p = none) (hb : B p = none) (hn : ∀ (i : Nat) (s : SD) (q : Addr), δ[i]? = some (some s) → s.own = true → σ[i]? = some (some (.ref q)) → q ≠ p) :
    Ok K Bs B Hs (upd H p ho) σ δ := by
  refine ⟨o.go.mut hb hs, fun j s e => ?_, o.len, o.fr, o.ap⟩
  obtain ⟨v, h1, h2⟩ := o.slot j s e
  refine ⟨v, h1, ?_⟩
  cases s with
  | d d => exact h2
  | b d => exact h2
  | ol l =>
    obtain ⟨q, vs, e1, e2, e3, e4⟩ := h2
    subst e1
    exact ⟨q, vs, rfl, e2, by rw [upd_ne (hn j _ q e rfl h1)]; exact e3, e4⟩
  | ok l =>
    obtain ⟨q, e1, e2, e3⟩ := h2
    subst e1
    exact ⟨q, rfl, e2, by rw [upd_ne (hn j _ q e rfl h1)]; exact e3⟩
  | ot l =>
    obtain ⟨q, e1, e2, e3⟩ := h2
    subst e1
    exact ⟨q, rfl, e2, by rw [upd_ne (hn j _ q e rfl h1)]; exact e3⟩
  | hb s => exact h2
theorem Ok.ownAt (o : Ok K Bs B Hs H σ δ) {i : Nat} {s : SD} {q : Addr} (e : δ[i]? = some (some s)) (w : s.own = true) (h : σ[i]? = some (some (.ref q))) : H q ≠ none := by
  obtain ⟨v, h1, h2⟩ := o.slot i s e
  rw [h] at h1
  cases h1
  cases s with
  | d d => cases w
  | b d => cases w
  | ol l => obtain ⟨_, _, e1, _, e3, _⟩ := h2; cases e1; rw [e3]; exact fun z => nomatch z
  | ok l => obtain ⟨_, e1, _, e3⟩ := h2; cases e1; rw [e3]; exact fun z => nomatch z
  | ot l => obtain ⟨_, e1, _, e3⟩ := h2; cases e1; rw [e3]; exact fun z => nomatch z
  | hb s => cases w
/-- an own list becomes data -/
def SD.frozen : SD → Option Da
  | .ol l => some (.lst l)
  | .ok l => some (.dk l)
  | .ot l => some (.dt l)
  | _ => none
theorem Ok.freeze (o : Ok K Bs B Hs H σ δ) {i : Nat} {s0 : SD} {d : Da} (hi : δ[i]? = some (some s0)) (hf : s0.frozen = some d) : ∃ Hs', Same Hs Hs' ∧ Ok K Bs B Hs' H σ (δ.set i (some (.d d))) := by
  obtain ⟨v, hv, r⟩ := o.slot i s0 hi
  have ow : s0.own = true := by cases s0 <;> first | rfl | cases hf
  have main : ∃ p ho, v = .ref p ∧ Hs p = none ∧ H p = some ho ∧ Rp K (upd Hs p ho) d (.ref p) := by
    cases s0 with
    | d d => cases hf
    | b d => cases hf
    | ol l =>
      obtain ⟨p, vs, e1, e2, e3, e4⟩ := r
      cases hf
      exact ⟨p, _, e1, e2, e3, .lst upd_same (e4.mono (same_upd e2))⟩
    | ok l =>
      obtain ⟨p, e1, e2, e3⟩ := r
      cases hf
      exact ⟨p, _, e1, e2, e3, .dk upd_same⟩
    | ot l =>
      obtain ⟨p, e1, e2, e3⟩ := r
      cases hf
      exact ⟨p, _, e1, e2, e3, .dt (.inl upd_same)⟩
    | hb s => cases hf
  obtain ⟨p, ho, rfl, hs, hH, rp⟩ := main
  have bp := o.fr i s0 p hi ow hv
  refine ⟨upd Hs p ho, same_upd hs, o.go.freeze bp hs hH, fun j s e => ?_, by simp [o.len], fun j s q e w e2 => ?_, fun j k s t q e1 e2 q1 q2 e3 e4 => ?_⟩
  · rcases set_some_key e with ⟨hj, e⟩ | ⟨rfl, rfl, hl⟩
    · obtain ⟨v, h1, h2⟩ := o.slot j s e
      refine ⟨v, h1, ?_⟩
      cases s with
      | d d => exact Rp.mono (same_upd hs) h2
      | b d => exact h2
      | ol l =>
        obtain ⟨q, vs, e1, e2, e3, e4⟩ := h2
        subst e1
        have nq : q ≠ p := fun z => hj (o.ap j i _ _ p e hi rfl ow (by rw [← z]; exact h1) hv)
        exact ⟨q, vs, rfl, by rw [upd_ne nq]; exact e2, e3, e4.mono (same_upd hs)⟩
      | ok l =>
        obtain ⟨q, e1, e2, e3⟩ := h2
        subst e1
        have nq : q ≠ p := fun z => hj (o.ap j i _ _ p e hi rfl ow (by rw [← z]; exact h1) hv)
        exact ⟨q, rfl, by rw [upd_ne nq]; exact e2, e3⟩
      | ot l =>
        obtain ⟨q, e1, e2, e3⟩ := h2
        subst e1
        have nq : q ≠ p := fun z => hj (o.ap j i _ _ p e hi rfl ow (by rw [← z]; exact h1) hv)
        exact ⟨q, rfl, by rw [upd_ne nq]; exact e2, e3⟩
      | hb s =>
        obtain ⟨e1, dx, v1, v2, us, b1, b2, n1, n2, q1, q2, q3⟩ := h2
        have na : s.a ≠ p := fun z => by rw [z, bp] at b1; cases b1
        have nl : s.la ≠ p := fun z => by rw [z, bp] at b2; cases b2
        exact ⟨e1, dx, v1, v2, us, b1, b2, by rw [upd_ne na]; exact n1, by rw [upd_ne nl]; exact n2, q1.mono (same_upd hs), q2.mono (same_upd hs), q3.mono (same_upd hs)⟩
    · exact ⟨_, hv, rp⟩
  · rcases set_some_key e with ⟨hj, e⟩ | ⟨rfl, rfl, hl⟩
    · exact o.fr j s q e w e2
    · cases w
  · rcases set_some_key e1 with ⟨hj, e1⟩ | ⟨rfl, rfl, hl⟩
    · rcases set_some_key e2 with ⟨hk, e2⟩ | ⟨rfl, rfl, hl⟩
      · exact o.ap j k s t q e1 e2 q1 q2 e3 e4
      · cases q2
    · cases q1
end

/-! ### the weakest readings -/
section
variable (X : Cx)
def WE (e : Expr) : TE := fun σ H Q => ∀ pins s, Inv X pins σ H s → wpAny (model X.prog X.w) X.A (eval e X.env) (EP X pins σ Q) X.xe s
def WT (e : Expr) : TT := fun σ H Q => ∀ pins s, Inv X pins σ H s → wpAny (model X.prog X.w) X.A (isTrue e X.env (eval e X.env)) (TP X pins σ Q) X.xe s
def WW (e : Expr) : TT := fun σ H Q => ∀ whole pins s, Inv X pins σ H s → wpAny (model X.prog X.w) X.A (isTrue e X.env whole) (TP X pins σ Q) X.xe s
def WA (es : List Expr) : TA := fun σ H Q => ∀ pos pins s, Inv X pins σ H s → wpAny (model X.prog X.w) X.A (spliced (backTo pos (starEach es X.env))) (AP X pins σ Q) X.xe s
def WS (st : Stmt) : TS := fun D σ H => ∀ pins s, Inv X pins σ H s → wpAny (model X.prog X.w) X.A (exec st X.env) (SP X pins D) X.xe s
def WB (st : List Stmt) : TS := fun D σ H => ∀ pins s, Inv X pins σ H s → wpAny (model X.prog X.w) X.A (execs st X.env) (SP X pins D) X.xe s
def WG (tg : Expr) : TG := fun v σ H Q => ∀ pins s u, Inv X pins σ H s → RelV v u → wpAny (model X.prog X.w) X.A (assign tg X.env u) (fun _ s' => ∃ σ' H', Inv X pins σ' H' s' ∧ Q σ' H') X.xe s
def WGs (ts : List Expr) : TGs := fun vs σ H Q => ∀ pins s us, Inv X pins σ H s → Vals vs us → wpAny (model X.prog X.w) X.A (assignInOrder ((assignEach ts X.env).map (·.2)) us) (fun _ s' => ∃ σ' H', Inv X pins σ' H' s' ∧ Q σ' H') X.xe s
def WI (tg iter : Expr) : TI := fun σ H R => ∀ pins s, Inv X pins σ H s →
    wpAny (model X.prog X.w) X.A (eval iter X.env) (fun v s1 => wpAny (model X.prog X.w) X.A (pyIter v) (PIE X pins σ tg R) X.xe s1) X.xe s
def WO (o : Option Expr) (b : TO) : Prop := True
def WTs (ifs : List Expr) : TT := fun σ H Q => ∀ pins s, Inv X pins σ H s →
    wpAny (model X.prog X.w) X.A (forIn ifs true fun c r => if r = true then do let ok ← isTrue c X.env (eval c X.env); pure (ForInStep.yield ok) else pure (ForInStep.yield r)) (TP X pins σ Q) X.xe s
def WK (kws : List Keyword) : TA := fun σ H Q => ∀ pos pins s, Inv X pins σ H s → wpAny (model X.prog X.w) X.A (evalAll ((backToKw pos (keywordEach kws X.env)).map (·.2))) (AP X pins σ Q) X.xe s
end
section
variable {X : Cx} {e tg it : Expr} {es : List Expr} {st : Stmt} {sts : List Stmt} {kws : List Keyword}
theorem pe_W : PE X e (WE X e) := ⟨fun pins s σ H Q I h => h pins s I⟩
theorem pt_W : PT X e (WT X e) := ⟨fun pins s σ H Q I h => h pins s I⟩
theorem pw_W : PW X e (WW X e) := ⟨fun wh pins s σ H Q I h => h wh pins s I⟩
theorem pa_W : PA X es (WA X es) := ⟨fun pos pins s σ H Q I h => h pos pins s I⟩
theorem ps_W : PS X st (WS X st) := ⟨fun pins s σ H D I h => h pins s I⟩
theorem pb_W : PSs X sts (WB X sts) := ⟨fun pins s σ H D I h => h pins s I⟩
theorem pg_W : PG X tg (WG X tg) := ⟨fun pins s σ H v u Q I r h => h pins s u I r⟩
theorem pgs_W : PGs X es (WGs X es) := ⟨fun pins s σ H vs us Q I r h => h pins s us I r⟩
theorem pi_W : PI X tg it (WI X tg it) := ⟨fun pins s σ H R I h => h pins s I⟩
theorem pts_W : PTs X es (WTs X es) := ⟨fun pins s σ H Q I h => h pins s I⟩
theorem pk_W : PK X kws (WK X kws) := ⟨fun pos pins s σ H Q I h => h pos pins s I⟩
theorem WE.of {t : TE} (p : PE X e t) {σ : L2.St} {H : Hp} {Q : VK} (h : t σ H Q) : WE X e σ H Q := fun pins s I => p.run pins s σ H Q I h
theorem WT.of {t : TT} (p : PT X e t) {σ : L2.St} {H : Hp} {Q : Bool → Hp → Prop} (h : t σ H Q) : WT X e σ H Q := fun pins s I => p.run pins s σ H Q I h
theorem WW.of {t : TT} (p : PW X e t) {σ : L2.St} {H : Hp} {Q : Bool → Hp → Prop} (h : t σ H Q) : WW X e σ H Q := fun wh pins s I => p.run wh pins s σ H Q I h
theorem WA.of {t : TA} (p : PA X es t) {σ : L2.St} {H : Hp} {Q : List V → Hp → Prop} (h : t σ H Q) : WA X es σ H Q := fun pos pins s I => p.run pos pins s σ H Q I h
theorem WS.of {t : TS} (p : PS X st t) {D : Ends} {σ : L2.St} {H : Hp} (h : t D σ H) : WS X st D σ H := fun pins s I => p.run pins s σ H D I h
theorem WB.of {t : TS} (p : PSs X sts t) {D : Ends} {σ : L2.St} {H : Hp} (h : t D σ H) : WB X sts D σ H := fun pins s I => p.run pins s σ H D I h
theorem WG.of {t : TG} (p : PG X tg t) {v : V} {σ : L2.St} {H : Hp} {Q : L2.St → Hp → Prop} (h : t v σ H Q) : WG X tg v σ H Q := fun pins s u I r => p.run pins s σ H v u Q I r h
theorem WGs.of {t : TGs} (p : PGs X es t) {vs : List V} {σ : L2.St} {H : Hp} {Q : L2.St → Hp → Prop} (h : t vs σ H Q) : WGs X es vs σ H Q := fun pins s us I r => p.run pins s σ H vs us Q I r h
theorem WI.of {t : TI} (p : PI X tg it t) {σ : L2.St} {H : Hp} {R : It → Hp → Prop} (h : t σ H R) : WI X tg it σ H R := fun pins s I => p.run pins s σ H R I h
theorem WTs.of {t : TT} (p : PTs X es t) {σ : L2.St} {H : Hp} {Q : Bool → Hp → Prop} (h : t σ H Q) : WTs X es σ H Q := fun pins s I => p.run pins s σ H Q I h
theorem WK.of {t : TA} (p : PK X kws t) {σ : L2.St} {H : Hp} {Q : List V → Hp → Prop} (h : t σ H Q) : WK X kws σ H Q := fun pos pins s I => p.run pos pins s σ H Q I h
end

/-! ### judgments over data -/
/-- stable or not -/
def RpM (m : Bool) (K : PySem.W.Frag) (Hs H : Hp) (d : Da) (v : V) : Prop := Rp K (if m then Hs else H) d v
section
variable {K : PySem.W.Frag} {Hs H Hs' H' : Hp} {d : Da} {v : V} {m : Bool}
theorem RpM.mono (g : Go Hs H Hs' H') (h : RpM m K Hs H d v) : RpM m K Hs' H' d v := by
  cases m with
  | true => exact Rp.mono g.ss h
  | false => exact Rp.mono g.hh h
theorem RpM.of (e : Same Hs H) (h : Rp K Hs d v) : RpM m K Hs H d v := by
  cases m with
  | true => exact h
  | false => exact Rp.mono e h
theorem RpM.full (e : Same Hs H) (h : RpM m K Hs H d v) : Rp K H d v := by
  cases m with
  | true => exact Rp.mono e h
  | false => exact h
end
structure DM (X : Cx) (m : Bool) (e : Expr) (δ : Sg) (Φ : Da → Prop) : Prop where
  run : ∀ Bs B Hs H σ, Ok X.K Bs B Hs H σ δ → ∀ Q : VK, (∀ d v Hs' H', Go Hs H Hs' H' → Φ d → RpM m X.K Hs' H' d v → Q v H') → WE X e σ H Q
abbrev DE (X : Cx) (e : Expr) (δ : Sg) (Φ : Da → Prop) : Prop := DM X true e δ Φ
abbrev DV (X : Cx) (e : Expr) (δ : Sg) (Φ : Da → Prop) : Prop := DM X false e δ Φ
structure DT (X : Cx) (e : Expr) (δ : Sg) (Φ : Bool → Prop) : Prop where
  run : ∀ Bs B Hs H σ, Ok X.K Bs B Hs H σ δ → ∀ Q : Bool → Hp → Prop, (∀ b Hs' H', Go Hs H Hs' H' → Φ b → Q b H') → WT X e σ H Q
structure DW (X : Cx) (e : Expr) (δ : Sg) (Φ : Bool → Prop) : Prop where
  run : ∀ Bs B Hs H σ, Ok X.K Bs B Hs H σ δ → ∀ Q : Bool → Hp → Prop, (∀ b Hs' H', Go Hs H Hs' H' → Φ b → Q b H') → WW X e σ H Q
/-- a comprehension's tests -/
structure DTs (X : Cx) (es : List Expr) (δ : Sg) (Φ : Bool → Prop) : Prop where
  run : ∀ Bs B Hs H σ, Ok X.K Bs B Hs H σ δ → ∀ Q : Bool → Hp → Prop, (∀ b Hs' H', Go Hs H Hs' H' → Φ b → Q b H') → WTs X es σ H Q
inductive RpL (K : PySem.W.Frag) (Hs H : Hp) : List Bool → List Da → List V → Prop
  | nil : RpL K Hs H [] [] []
  | cons {m : Bool} {ms : List Bool} {d : Da} {ds : List Da} {v : V} {vs : List V} : RpM m K Hs H d v → RpL K Hs H ms ds vs → RpL K Hs H (m :: ms) (d :: ds) (v :: vs)
theorem RpL.mono {K : PySem.W.Frag} {Hs H Hs' H' : Hp} (g : Go Hs H Hs' H') : ∀ {ms : List Bool} {ds : List Da} {vs : List V}, RpL K Hs H ms ds vs → RpL K Hs' H' ms ds vs
  | _, _, _, .nil => .nil
  | _, _, _, .cons r t => .cons (r.mono g) (RpL.mono g t)
theorem RpL.lens {K : PySem.W.Frag} {Hs H : Hp} : ∀ {ms : List Bool} {ds : List Da} {vs : List V}, RpL K Hs H ms ds vs → vs.length = ms.length
  | _, _, _, .nil => rfl
  | _, _, _, .cons _ t => congrArg (· + 1) t.lens
theorem RpL.all {K : PySem.W.Frag} {Hs H : Hp} (e : Same Hs H) : ∀ {ms : List Bool} {ds : List Da} {vs : List V}, RpL K Hs H ms ds vs → RpAll K H ds vs
  | _, _, _, .nil => .nil
  | _, _, _, .cons r t => .cons (r.full e) (RpL.all e t)
theorem RpL.stab {K : PySem.W.Frag} {Hs H : Hp} : ∀ {ms : List Bool} {ds : List Da} {vs : List V}, RpL K Hs H ms ds vs → ms.all id = true → RpAll K Hs ds vs
  | _, _, _, .nil, _ => .nil
  | m :: ms, _, _, .cons r t, h => by
    have h1 : m = true ∧ ms.all id = true := by simpa using h
    obtain ⟨rfl, h2⟩ := h1
    exact .cons r (RpL.stab t h2)
structure DA (X : Cx) (ms : List Bool) (es : List Expr) (δ : Sg) (Φ : List Da → Prop) : Prop where
  run : ∀ Bs B Hs H σ, Ok X.K Bs B Hs H σ δ → ∀ Q : List V → Hp → Prop,
  (∀ ds vs Hs' H', Go Hs H Hs' H' → Φ ds → RpL X.K Hs' H' ms ds vs → Q vs H') → WA X es σ H Q
structure DK (X : Cx) (ms : List Bool) (kws : List Keyword) (δ : Sg) (Φ : List Da → Prop) : Prop where
  run : ∀ Bs B Hs H σ, Ok X.K Bs B Hs H σ δ → ∀ Q : List V → Hp → Prop,
  (∀ ds vs Hs' H', Go Hs H Hs' H' → Φ ds → RpL X.K Hs' H' ms ds vs → Q vs H') → WK X kws σ H Q
/-- ends over data, from a stable part on -/
structure Fits (K : PySem.W.Frag) (Bs B Hs : Hp) (nx : Sg → Prop) (rt : Da → Prop) (bk ct : Sg → Prop) (D : Ends) : Prop where
  nx : ∀ δ σ Hs' H, Ok K Bs B Hs' H σ δ → Same Hs Hs' → nx δ → D.nx σ H
  rt : ∀ d v Hs' H, Go Bs B Hs' H → Same Hs Hs' → rt d → Rp K Hs' d v → D.rt v H
  bk : ∀ δ σ Hs' H, Ok K Bs B Hs' H σ δ → Same Hs Hs' → bk δ → D.bk σ H
  ct : ∀ δ σ Hs' H, Ok K Bs B Hs' H σ δ → Same Hs Hs' → ct δ → D.ct σ H
theorem Fits.frm {K : PySem.W.Frag} {Bs B Hs Hs1 : Hp} {nx : Sg → Prop} {rt : Da → Prop} {bk ct : Sg → Prop} {D : Ends} (f : Fits K Bs B Hs nx rt bk ct D) (e : Same Hs Hs1) : Fits K Bs B Hs1 nx rt bk ct D :=
  ⟨fun δ σ Hs' H o s h => f.nx δ σ Hs' H o (e.trans s) h, fun d v Hs' H g s h r => f.rt d v Hs' H g (e.trans s) h r, fun δ σ Hs' H o s h => f.bk δ σ Hs' H o (e.trans s) h, fun δ σ Hs' H o s h => f.ct δ σ Hs' H o (e.trans s) h⟩
structure DS (X : Cx) (st : Stmt) (δ : Sg) (nx : Sg → Prop) (rt : Da → Prop) (bk ct : Sg → Prop) : Prop where
  run : ∀ Bs B Hs H σ, Ok X.K Bs B Hs H σ δ → ∀ D, Fits X.K Bs B Hs nx rt bk ct D → WS X st D σ H
structure DB (X : Cx) (sts : List Stmt) (δ : Sg) (nx : Sg → Prop) (rt : Da → Prop) (bk ct : Sg → Prop) : Prop where
  run : ∀ Bs B Hs H σ, Ok X.K Bs B Hs H σ δ → ∀ D, Fits X.K Bs B Hs nx rt bk ct D → WB X sts D σ H
/-- slots of other names stay -/
def Keep (N nm : List Str) (σ σ' : L2.St) : Prop := σ'.length = σ.length ∧ ∀ i : Nat, (∀ x, N[i]? = some x → x ∉ nm) → σ'[i]? = σ[i]?
theorem Keep.refl (N nm : List Str) (σ : L2.St) : Keep N nm σ σ := ⟨rfl, fun _ _ => rfl⟩
theorem Keep.trans {N nm nm2 : List Str} {σ σ1 σ2 : L2.St} (a : Keep N nm σ σ1) (b : Keep N nm2 σ1 σ2) : Keep N (nm ++ nm2) σ σ2 :=
  ⟨b.1.trans a.1, fun i h => (b.2 i fun x e z => h x e (List.mem_append_right _ z)).trans (a.2 i fun x e z => h x e (List.mem_append_left _ z))⟩
/-- a target (of these names) takes a (stable) thing -/
structure DG (X : Cx) (tg : Expr) (nm : List Str) (d : Da) (δ : Sg) (Φ : Sg → Prop) : Prop where
  run : ∀ Bs B Hs H σ v, Ok X.K Bs B Hs H σ δ → Rp X.K Hs d v → ∀ Q : L2.St → Hp → Prop,
  (∀ δ' σ' Hs' H', Ok X.K Bs B Hs' H' σ' δ' → Go Hs H Hs' H' → Keep X.N nm σ σ' → Φ δ' → Q σ' H') → WG X tg v σ H Q
structure DGs (X : Cx) (ts : List Expr) (nm : List Str) (ds : List Da) (δ : Sg) (Φ : Sg → Prop) : Prop where
  run : ∀ Bs B Hs H σ vs, Ok X.K Bs B Hs H σ δ → RpAll X.K Hs ds vs → ∀ Q : L2.St → Hp → Prop,
  (∀ δ' σ' Hs' H', Ok X.K Bs B Hs' H' σ' δ' → Go Hs H Hs' H' → Keep X.N nm σ σ' → Φ δ' → Q σ' H') → WGs X ts vs σ H Q
/-- what a loop walks: the items, each a stable thing when it comes -/
structure DI (X : Cx) (tg it : Expr) (δ : Sg) (Φ : List Da → Prop) : Prop where
  run : ∀ Bs B Hs H σ, Ok X.K Bs B Hs H σ δ → ∀ R : It → Hp → Prop,
  (∀ (ds : List Da) (J : It) (G : Hp → Prop) (Y : Nat → Hp → V → Hp → Prop) (Hs' H' : Hp), Go Hs H Hs' H' → Φ ds → Walk J ds.length G Y → (∀ Hs2 H2, Same Hs' Hs2 → Same Hs2 H2 → G H2) →
    (∀ i d Hs2 H2 v H3, Same Hs' Hs2 → Same Hs2 H2 → ds[i]? = some d → Y i H2 v H3 → ∃ Hs3, Go Hs2 H2 Hs3 H3 ∧ Rp X.K Hs3 d v) → R J H') → WI X tg it σ H R
section
variable {X : Cx} {K : PySem.W.Frag}
instance {X : Cx} {m : Bool} {e : Expr} {δ : Sg} {Φ : Da → Prop} : CoeFun (DM X m e δ Φ) (fun _ => ∀ Bs B Hs H σ, Ok X.K Bs B Hs H σ δ → ∀ Q : VK, (∀ d v Hs' H', Go Hs H Hs' H' → Φ d → RpM m X.K Hs' H' d v → Q v H') → WE X e σ H Q) := ⟨fun h => h.run⟩
instance {X : Cx} {e : Expr} {δ : Sg} {Φ : Bool → Prop} : CoeFun (DT X e δ Φ) (fun _ => ∀ Bs B Hs H σ, Ok X.K Bs B Hs H σ δ → ∀ Q : Bool → Hp → Prop, (∀ b Hs' H', Go Hs H Hs' H' → Φ b → Q b H') → WT X e σ H Q) := ⟨fun h => h.run⟩
instance {X : Cx} {e : Expr} {δ : Sg} {Φ : Bool → Prop} : CoeFun (DW X e δ Φ) (fun _ => ∀ Bs B Hs H σ, Ok X.K Bs B Hs H σ δ → ∀ Q : Bool → Hp → Prop, (∀ b Hs' H', Go Hs H Hs' H' → Φ b → Q b H') → WW X e σ H Q) := ⟨fun h => h.run⟩
instance {X : Cx} {es : List Expr} {δ : Sg} {Φ : Bool → Prop} : CoeFun (DTs X es δ Φ) (fun _ => ∀ Bs B Hs H σ, Ok X.K Bs B Hs H σ δ → ∀ Q : Bool → Hp → Prop, (∀ b Hs' H', Go Hs H Hs' H' → Φ b → Q b H') → WTs X es σ H Q) := ⟨fun h => h.run⟩
instance {X : Cx} {ms : List Bool} {es : List Expr} {δ : Sg} {Φ : List Da → Prop} : CoeFun (DA X ms es δ Φ) (fun _ => ∀ Bs B Hs H σ, Ok X.K Bs B Hs H σ δ → ∀ Q : List V → Hp → Prop,
  (∀ ds vs Hs' H', Go Hs H Hs' H' → Φ ds → RpL X.K Hs' H' ms ds vs → Q vs H') → WA X es σ H Q) := ⟨fun h => h.run⟩
instance {X : Cx} {ms : List Bool} {kws : List Keyword} {δ : Sg} {Φ : List Da → Prop} : CoeFun (DK X ms kws δ Φ) (fun _ => ∀ Bs B Hs H σ, Ok X.K Bs B Hs H σ δ → ∀ Q : List V → Hp → Prop,
  (∀ ds vs Hs' H', Go Hs H Hs' H' → Φ ds → RpL X.K Hs' H' ms ds vs → Q vs H') → WK X kws σ H Q) := ⟨fun h => h.run⟩
instance {X : Cx} {st : Stmt} {δ : Sg} {nx : Sg → Prop} {rt : Da → Prop} {bk ct : Sg → Prop} : CoeFun (DS X st δ nx rt bk ct) (fun _ => ∀ Bs B Hs H σ, Ok X.K Bs B Hs H σ δ → ∀ D, Fits X.K Bs B Hs nx rt bk ct D → WS X st D σ H) := ⟨fun h => h.run⟩
instance {X : Cx} {sts : List Stmt} {δ : Sg} {nx : Sg → Prop} {rt : Da → Prop} {bk ct : Sg → Prop} : CoeFun (DB X sts δ nx rt bk ct) (fun _ => ∀ Bs B Hs H σ, Ok X.K Bs B Hs H σ δ → ∀ D, Fits X.K Bs B Hs nx rt bk ct D → WB X sts D σ H) := ⟨fun h => h.run⟩
instance {X : Cx} {tg : Expr} {nm : List Str} {d : Da} {δ : Sg} {Φ : Sg → Prop} : CoeFun (DG X tg nm d δ Φ) (fun _ => ∀ Bs B Hs H σ v, Ok X.K Bs B Hs H σ δ → Rp X.K Hs d v → ∀ Q : L2.St → Hp → Prop,
  (∀ δ' σ' Hs' H', Ok X.K Bs B Hs' H' σ' δ' → Go Hs H Hs' H' → Keep X.N nm σ σ' → Φ δ' → Q σ' H') → WG X tg v σ H Q) := ⟨fun h => h.run⟩
instance {X : Cx} {ts : List Expr} {nm : List Str} {ds : List Da} {δ : Sg} {Φ : Sg → Prop} : CoeFun (DGs X ts nm ds δ Φ) (fun _ => ∀ Bs B Hs H σ vs, Ok X.K Bs B Hs H σ δ → RpAll X.K Hs ds vs → ∀ Q : L2.St → Hp → Prop,
  (∀ δ' σ' Hs' H', Ok X.K Bs B Hs' H' σ' δ' → Go Hs H Hs' H' → Keep X.N nm σ σ' → Φ δ' → Q σ' H') → WGs X ts vs σ H Q) := ⟨fun h => h.run⟩
instance {X : Cx} {tg it : Expr} {δ : Sg} {Φ : List Da → Prop} : CoeFun (DI X tg it δ Φ) (fun _ => ∀ Bs B Hs H σ, Ok X.K Bs B Hs H σ δ → ∀ R : It → Hp → Prop,
  (∀ (ds : List Da) (J : It) (G : Hp → Prop) (Y : Nat → Hp → V → Hp → Prop) (Hs' H' : Hp), Go Hs H Hs' H' → Φ ds → Walk J ds.length G Y → (∀ Hs2 H2, Same Hs' Hs2 → Same Hs2 H2 → G H2) →
    (∀ i d Hs2 H2 v H3, Same Hs' Hs2 → Same Hs2 H2 → ds[i]? = some d → Y i H2 v H3 → ∃ Hs3, Go Hs2 H2 Hs3 H3 ∧ Rp X.K Hs3 d v) → R J H') → WI X tg it σ H R) := ⟨fun h => h.run⟩
end
end DL

/-! DL2: the rules of expressions, statements, defs. -/
namespace DL
open PySem PySem.Spec PyProof.Rows L2
/-! ### truths among numbers -/
theorem gv_add_bi (a : Bool) (b : Int) (u : Tok) : Gives (Builtin.«int.__add__» ⟨[.bool a, .int b u], []⟩) (.int ((if a = true then (1 : Int) else 0) + b)) :=
  .of_wp fun M A E s Q h => by obtain ⟨hp, g, d, tk, os⟩ := s; wp_walk; exact ⟨_, rfl, h⟩
theorem gv_sub_bi (a : Bool) (b : Int) (u : Tok) : Gives (Builtin.«int.__sub__» ⟨[.bool a, .int b u], []⟩) (.int ((if a = true then (1 : Int) else 0) - b)) :=
  .of_wp fun M A E s Q h => by obtain ⟨hp, g, d, tk, os⟩ := s; wp_walk; exact ⟨_, rfl, h⟩
theorem refl_sub : reflectedDiffers (.type "int") (.type "bool") "sub" = pure false := by
  unfold reflectedDiffers
  show (typeLookup (.type "bool") (dunderR "sub") >>= fun rb => typeLookup (.type "int") (dunderR "sub") >>= fun ra => pure (rb.isSome && rb != ra)) = pure false
  rw [typeLookup_type, typeLookup_type, builtinLookup_eq_fast]; kernel_rfl
theorem refl_mul : reflectedDiffers (.type "int") (.type "bool") "mul" = pure false := by
  unfold reflectedDiffers
  show (typeLookup (.type "bool") (dunderR "mul") >>= fun rb => typeLookup (.type "int") (dunderR "mul") >>= fun ra => pure (rb.isSome && rb != ra)) = pure false
  rw [typeLookup_type, typeLookup_type, builtinLookup_eq_fast]; kernel_rfl
section
variable {prog : Program} {w : World} {A : Around} {E : Value → Shared → Prop} {s : Shared} {a : Int} {t : Tok} {b : Bool}
theorem sub_int_b {Q : Value → Shared → Prop} (h : Q (.int (a - if b = true then (1 : Int) else 0) s.toks) { s with toks := s.toks + 1 }) : wpAny (model prog w) A (binaryOp .Sub (.int a t) (.bool b)) Q E s :=
  binaryOp_sub_gives (op := .Sub) (T := "int") (U := "bool") (by decide) (typeIs_int s a t) rfl F.fills_int_sub F.fills_bool_sub isSubtype_bool_int refl_sub F.slot_int_sub F.entry_int_sub (F.args_int_sub_2 _ _)
    (AutoIntG7.int___sub___int_bool_0 a t b) trivial h
theorem mul_int_b {Q : Value → Shared → Prop} (h : Q (.int (a * if b = true then (1 : Int) else 0) s.toks) { s with toks := s.toks + 1 }) : wpAny (model prog w) A (binaryOp .Mult (.int a t) (.bool b)) Q E s :=
  binaryOp_sub_gives (op := .Mult) (T := "int") (U := "bool") (by decide) (typeIs_int s a t) rfl F.fills_int_mul F.fills_bool_mul isSubtype_bool_int refl_mul F.slot_int_mul F.entry_int_mul (F.args_int_mul_2 _ _)
    (AutoIntG9.int___mul___int_bool_0 a t b) trivial h
theorem add_b_int {Q : Value → Shared → Prop} (h : Q (.int ((if b = true then (1 : Int) else 0) + a) s.toks) { s with toks := s.toks + 1 }) : wpAny (model prog w) A (binaryOp .Add (.bool b) (.int a t)) Q E s :=
  binaryOp_left_gives (op := .Add) (T := "bool") (U := "int") (by decide) rfl (fun s' => typeIs_int s' a t) F.fills_bool_add F.fills_int_add (by kernel_rfl) F.slot_bool_add F.slot_int_radd F.entry_int_add (F.args_int_add_2 _ _)
    (gv_add_bi b a t) trivial h
theorem sub_b_int {Q : Value → Shared → Prop} (h : Q (.int ((if b = true then (1 : Int) else 0) - a) s.toks) { s with toks := s.toks + 1 }) : wpAny (model prog w) A (binaryOp .Sub (.bool b) (.int a t)) Q E s :=
  binaryOp_left_gives (op := .Sub) (T := "bool") (U := "int") (by decide) rfl (fun s' => typeIs_int s' a t) F.fills_bool_sub F.fills_int_sub (by kernel_rfl) F.slot_bool_sub F.slot_int_rsub F.entry_int_sub (F.args_int_sub_2 _ _)
    (gv_sub_bi b a t) trivial h
end
section
variable {X : Cx}
theorem op_add_bi : OpR X (binaryOp .Add) (fun x y H Q => ∃ k i, x = .bl k ∧ y = .int i ∧ Q (.int (b2i k + i)) H) := by
  intro pins s σ H x y v u Q I rx ry h
  obtain ⟨k, i, rfl, rfl, q⟩ := h
  obtain ⟨t, rfl⟩ := ry
  cases rx
  exact add_b_int ⟨.int (b2i k + i), H, I.tok _, ⟨_, rfl⟩, q⟩
theorem op_sub_bi : OpR X (binaryOp .Sub) (fun x y H Q => ∃ k i, x = .bl k ∧ y = .int i ∧ Q (.int (b2i k - i)) H) := by
  intro pins s σ H x y v u Q I rx ry h
  obtain ⟨k, i, rfl, rfl, q⟩ := h
  obtain ⟨t, rfl⟩ := ry
  cases rx
  exact sub_b_int ⟨.int (b2i k - i), H, I.tok _, ⟨_, rfl⟩, q⟩
theorem op_sub_ib : OpR X (binaryOp .Sub) (fun x y H Q => ∃ i k, x = .int i ∧ y = .bl k ∧ Q (.int (i - b2i k)) H) := by
  intro pins s σ H x y v u Q I rx ry h
  obtain ⟨i, k, rfl, rfl, q⟩ := h
  obtain ⟨t, rfl⟩ := rx
  cases ry
  exact sub_int_b ⟨.int (i - b2i k), H, I.tok _, ⟨_, rfl⟩, q⟩
theorem op_mul_ib : OpR X (binaryOp .Mult) (fun x y H Q => ∃ i k, x = .int i ∧ y = .bl k ∧ Q (.int (i * b2i k)) H) := by
  intro pins s σ H x y v u Q I rx ry h
  obtain ⟨i, k, rfl, rfl, q⟩ := h
  obtain ⟨t, rfl⟩ := rx
  cases ry
  exact mul_int_b ⟨.int (i * b2i k), H, I.tok _, ⟨_, rfl⟩, q⟩
end
section
variable {X : Cx}
theorem op_inK (hu : X.A.units + 1 < cLine) : OpR X (compareOp .In) (fun x y H Q => ∃ (q : Key) (a : Addr) (kvs : List (Key × V)), x = kV q ∧ y = .ref a ∧ H a = some (.dK kvs) ∧ Q (.bl (valV kvs q).isSome) H) := by
  intro pins s σ H x y v u Q I rx ry h
  obtain ⟨q, a, kvs, rfl, rfl, hd, p⟩ := h
  cases ry
  exact d_in hu I (DGet.k hd) rx fun s' I' => ⟨.bl _, H, I', rfl, p⟩
theorem op_notInK (hu : X.A.units + 1 < cLine) : OpR X (compareOp .NotIn) (fun x y H Q => ∃ (q : Key) (a : Addr) (kvs : List (Key × V)), x = kV q ∧ y = .ref a ∧ H a = some (.dK kvs) ∧ Q (.bl (!(valV kvs q).isSome)) H) := by
  intro pins s σ H x y v u Q I rx ry h
  obtain ⟨q, a, kvs, rfl, rfl, hd, p⟩ := h
  cases ry
  exact d_notIn hu I (DGet.k hd) rx fun s' I' => ⟨.bl _, H, I', rfl, p⟩
theorem op_notInDT (hu : X.A.units + 64 < cLine) : OpR X (compareOp .NotIn) (fun x y H Q => ∃ d ds, Dp X.K H x d ∧ Dp X.K H y (.tuple ds) ∧ SeqAt.shaped d = true ∧ SeqAt.shaped (.tuple ds) = true ∧ PyData.depthAll ds ≤ 60 ∧ Q (.bl (!ds.any fun z => PyData.eqv z d)) H) := by
  intro pins s σ H x y v u Q I rx ry h
  obtain ⟨d, ds, hd, he, sd, se, hl, q⟩ := h
  obtain ⟨as, r1⟩ := Dp.reads I d x v hd rx
  obtain ⟨bs, r2⟩ := Dp.reads I (.tuple ds) y u he ry
  exact SeqAt.notIn_tuple_reads r2 r1 (SeqAt.canLay_of_shaped se) (SeqAt.canLay_of_shaped sd) (by have := Nat.min_le_left (PyData.depthAll ds) d.depth; omega) ⟨.bl _, H, I, rfl, q⟩
end

/-- the module -/
structure Md where
  P : Program
  w : World
  K : PySem.W.Frag
  mg : Str → Option Value
  base : Heap
def visB (sc : Scope) (x : Str) : Bool := (match sc.names.lookup x with | some .local => true | some .cell => true | some .free => true | _ => false) && !(x == ("__debug__" : Str)) && !(x == ("__classdict__" : Str))
def locB (sc : Scope) (x : Str) : Bool := match sc.names.lookup x with | some .local => true | some .cell => true | _ => false
def glB (sc : Scope) (x : Str) : Bool := (match sc.names.lookup x with | some .globalImplicit => true | _ => false) && !(x == ("__debug__" : Str)) && !(x == ("__name__" : Str))
theorem visB_ok {sc : Scope} {x : Str} (h : visB sc x = true) : Vis sc x ∧ (x == ("__debug__" : Str)) = false ∧ (x == ("__classdict__" : Str)) = false := by
  unfold visB at h
  simp only [Bool.and_eq_true, Bool.not_eq_true'] at h
  obtain ⟨⟨h1, h2⟩, h3⟩ := h
  refine ⟨?_, h2, h3⟩
  unfold Vis
  split at h1 <;> first | (left; assumption) | (right; left; assumption) | (right; right; assumption) | cases h1
theorem locB_ok {sc : Scope} {x : Str} (h : locB sc x = true) : L2.Loc sc x := by
  unfold locB at h
  unfold L2.Loc
  split at h <;> first | (left; assumption) | (right; assumption) | cases h
theorem glB_ok {sc : Scope} {x : Str} (h : glB sc x = true) : sc.names.lookup x = some .globalImplicit ∧ (x == ("__debug__" : Str)) = false ∧ x ≠ ("__name__" : Str) := by
  unfold glB at h
  simp only [Bool.and_eq_true, Bool.not_eq_true'] at h
  obtain ⟨⟨h1, h2⟩, h3⟩ := h
  refine ⟨?_, h2, fun e => by simp [e] at h3⟩
  split at h1 <;> first | assumption | cases h1
/-- what is known of where one stands -/
structure Sc (M : Md) (X : Cx) (k : Nat) (N : List Str) (sc cs : Scope) : Prop where
  hP : X.prog = M.P
  hw : X.w = M.w
  hK : X.K = M.K
  hmg : X.mg = M.mg
  hb : X.base = M.base
  n : X.N = N
  nd : N.Nodup
  calm : X.calm = true
  room : Room k X.A
  kind : sc.kind = .function
  po : PassesOwn (model X.prog X.w) X.A X.env X.xe
  hsc : X.env.scope = sc
  fn : ∀ x, locB cs x = true → L2.Loc X.env.scope x ∧ (X.fn x = true ∨ X.env.scope.names.lookup x = some .local)
inductive Gt : List Str → Sg → Str → SD → Prop
  | z {x : Str} {N : List Str} {s : SD} {δ : Sg} : Gt (x :: N) (some s :: δ) x s
  | s {x y : Str} {N : List Str} {s : SD} {t : Option SD} {δ : Sg} : Gt N δ x s → Gt (y :: N) (t :: δ) x s
theorem Gt.at : ∀ {N : List Str} {δ : Sg} {x : Str} {s : SD}, Gt N δ x s → ∃ i : Nat, N[i]? = some x ∧ δ[i]? = some (some s)
  | _, _, _, _, .z => ⟨0, rfl, rfl⟩
  | _, _, _, _, .s h => let ⟨i, h1, h2⟩ := h.at; ⟨i + 1, h1, h2⟩
inductive Ss : List Str → Sg → Str → Option SD → Sg → Prop
  | z {x : Str} {N : List Str} {s t : Option SD} {δ : Sg} : Ss (x :: N) (t :: δ) x s (s :: δ)
  | s {x y : Str} {N : List Str} {s t : Option SD} {δ δ' : Sg} : Ss N δ x s δ' → Ss (y :: N) (t :: δ) x s (t :: δ')
theorem Ss.at : ∀ {N : List Str} {δ δ' : Sg} {x : Str} {s : Option SD}, Ss N δ x s δ' → ∃ i : Nat, N[i]? = some x ∧ δ' = δ.set i s
  | _, _, _, _, _, .z => ⟨0, rfl, rfl⟩
  | _, _, _, _, _, .s h => let ⟨i, h1, h2⟩ := h.at; ⟨i + 1, h1, by rw [h2]; rfl⟩

section
variable {M : Md} {X : Cx} {k : Nat} {N : List Str} {sc cs : Scope} {δ δ' : Sg} {m : Bool} {Φ Ψ : Da → Prop} {x : Str} {pos p2 : Pos} {e a b : Expr} {es : List Expr}

theorem DM.imp (h : DM X m e δ Φ) (hi : ∀ d, Φ d → Ψ d) : DM X m e δ Ψ := .mk fun Bs B Hs H σ o Q q => h Bs B Hs H σ o Q fun d v Hs' H' g p r => q d v Hs' H' g (hi d p) r
theorem dv_of (h : DE X e δ Φ) : DV X e δ Φ := .mk fun Bs B Hs H σ o Q q => h Bs B Hs H σ o Q fun d v Hs' H' g p r => q d v Hs' H' g p (Rp.mono g.sub r)
theorem DM.of (h : DE X e δ Φ) : DM X m e δ Φ := by
  cases m with
  | true => exact h
  | false => exact dv_of h
/-- atoms -/
theorem dm_atom (h : ∀ Bs B Hs H σ, Ok X.K Bs B Hs H σ δ → ∀ Q : VK, (∀ v Hs' H', Go Hs H Hs' H' → Φ (.a v) → Q v H') → WE X e σ H Q) : DM X m e δ Φ :=
  .mk fun Bs B Hs H σ o Q q => h Bs B Hs H σ o Q fun v Hs' H' g p => q (.a v) v Hs' H' g p (.of g.sub (.a v))

/-! ### names, constants -/
theorem de_name (S : Sc M X k N sc cs) {d : Da} (hs : Gt N δ x (.d d)) (hv : visB sc x = true) (h : Φ d) : DM X m (.Name x pos) δ Φ := .mk fun Bs B Hs H σ o Q q => by
  obtain ⟨i, h1, h2⟩ := hs.at
  obtain ⟨v, h3, h4⟩ := o.slot i _ h2
  obtain ⟨v1, v2, v3⟩ := visB_ok hv
  exact WE.of (pe_var (i := i) (by rw [S.n]; exact h1) (by rw [S.hsc]; exact v1) v2 v3) ⟨v, h3, q d v Hs H (Go.refl o.sub) h (RpM.of o.sub h4)⟩
theorem dv_nameB (S : Sc M X k N sc cs) {d : Da} (hs : Gt N δ x (.b d)) (hv : visB sc x = true) (h : Φ d) : DV X (.Name x pos) δ Φ := .mk fun Bs B Hs H σ o Q q => by
  obtain ⟨i, h1, h2⟩ := hs.at
  obtain ⟨v, h3, h4⟩ := o.slot i _ h2
  obtain ⟨v1, v2, v3⟩ := visB_ok hv
  exact WE.of (pe_var (i := i) (by rw [S.n]; exact h1) (by rw [S.hsc]; exact v1) v2 v3) ⟨v, h3, q d v Hs H (Go.refl o.sub) h (Rp.mono o.go.hh h4)⟩
theorem dv_nameO (S : Sc M X k N sc cs) {s : SD} {d : Da} (hs : Gt N δ x s) (hf : s.frozen = some d) (hv : visB sc x = true) (h : Φ d) : DV X (.Name x pos) δ Φ := .mk fun Bs B Hs H σ o Q q => by
  obtain ⟨i, h1, h2⟩ := hs.at
  obtain ⟨v, h3, h4⟩ := o.slot i _ h2
  obtain ⟨v1, v2, v3⟩ := visB_ok hv
  refine WE.of (pe_var (i := i) (by rw [S.n]; exact h1) (by rw [S.hsc]; exact v1) v2 v3) ⟨v, h3, q d v Hs H (Go.refl o.sub) h ?_⟩
  show Rp X.K H d v
  cases s with
  | d d => cases hf
  | b d => cases hf
  | ol l => obtain ⟨p, vs, rfl, _, e, r⟩ := h4; cases hf; exact .lst e (r.mono o.sub)
  | ok l => obtain ⟨p, rfl, _, e⟩ := h4; cases hf; exact .dk e
  | ot l => obtain ⟨p, rfl, _, e⟩ := h4; cases hf; exact .dt (.inl e)
  | hb s => cases hf
theorem de_int {i j} (h : Φ (.int i)) : DM X m (.Constant (.int i) j pos) δ Φ := dm_atom fun Bs B Hs H σ o Q q => WE.of pe_int (q (.int i) Hs H (Go.refl o.sub) h)
theorem de_bl {i j} (h : Φ (.bl i)) : DM X m (.Constant (.bool i) j pos) δ Φ := dm_atom fun Bs B Hs H σ o Q q => WE.of pe_bl (q (.bl i) Hs H (Go.refl o.sub) h)
theorem de_non {j} (h : Φ .non) : DM X m (.Constant .none j pos) δ Φ := dm_atom fun Bs B Hs H σ o Q q => WE.of pe_non (q .non Hs H (Go.refl o.sub) h)
theorem de_str {i j} (h : Φ (.str i)) : DM X m (.Constant (.str i) j pos) δ Φ := dm_atom fun Bs B Hs H σ o Q q => WE.of pe_str (q (.str i) Hs H (Go.refl o.sub) h)
theorem de_glob (S : Sc M X k N sc cs) {v : V} {u : Value} (hg : glB sc x = true) (hm : M.mg x = some u) (r : RelV v u) (h : Φ (.a v)) : DM X m (.Name x pos) δ Φ := dm_atom fun Bs B Hs H σ o Q q => by
  obtain ⟨g1, g2, g3⟩ := glB_ok hg
  exact WE.of (pe_glob (by show X.env.scope.names.lookup x = _; rw [S.hsc]; exact g1) (by rw [S.hmg]; exact hm) r g2) (q v Hs H (Go.refl o.sub) h)
theorem de_bltn (S : Sc M X k N sc cs) {v : V} {u : Value} (hg : glB sc x = true) (hm : M.mg x = none) (hv : bootBuiltins x = some u) (r : RelV v u) (h : Φ (.a v)) : DM X m (.Name x pos) δ Φ := dm_atom fun Bs B Hs H σ o Q q => by
  obtain ⟨g1, g2, g3⟩ := glB_ok hg
  exact WE.of (pe_bltn (by show X.env.scope.names.lookup x = _; rw [S.hsc]; exact g1) (by rw [S.hmg]; exact hm) hv r g3 g2) (q v Hs H (Go.refl o.sub) h)

/-! ### operators -/
/-- the weakest reading of an operator -/
def rW (X : Cx) (f : Value → Value → Sem Value) : R2 := fun x y H Q => ∀ pins s σ v u, Inv X pins σ H s → RelV x v → RelV y u → wpAny (model X.prog X.w) X.A (f v u) (EP X pins σ Q) X.xe s
theorem rW_ok {f : Value → Value → Sem Value} : OpR X f (rW X f) := fun pins s σ H x y v u Q I rx ry h => h pins s σ v u I rx ry
theorem rW_of {f : Value → Value → Sem Value} {r : R2} (h : OpR X f r) {x y : V} {H : Hp} {Q : VK} (q : r x y H Q) : rW X f x y H Q := fun pins s σ v u I rx ry => h pins s σ H x y v u Q I rx ry q
/-- an operation on values: operands stable, the result too -/
def OW (X : Cx) (f : Value → Value → Sem Value) (x y : Da) (Φ : Da → Prop) : Prop := ∀ Hs H v w, Same Hs H → Rp X.K Hs x v → Rp X.K Hs y w → ∀ Q : VK, (∀ d z Hs' H', Go Hs H Hs' H' → Φ d → Rp X.K Hs' d z → Q z H') → rW X f v w H Q
theorem de_bin {op : Operator} (h : DE X a δ fun x => DE X b δ fun y => OW X (binaryOp op) x y Φ) : DM X m (.BinOp a op b pos) δ Φ := DM.of <| .mk fun Bs B Hs H σ o Q q =>
  WE.of (pe_op rW_ok pe_W pe_W) (h Bs B Hs H σ o _ fun x v Hs1 H1 g1 hb r1 => hb Bs B Hs1 H1 σ (o.mono g1) _ fun y w Hs2 H2 g2 hc r2 =>
    hc Hs2 H2 v w g2.sub (Rp.mono g2.ss r1) r2 Q fun d z Hs3 H3 g3 p r3 => q d z Hs3 H3 ((g1.trans g2).trans g3) p r3)
/-- .. that gives an atom and leaves the heap -/
theorem ow_atom {f : Value → Value → Sem Value} {r : R2} (hr : OpR X f r) {v w z : V} (hq : ∀ (H : Hp) (Q : VK), Q z H → r v w H Q) (h : Φ (.a z)) : OW X f (.a v) (.a w) Φ := fun Hs H v' w' e r1 r2 Q q => by
  cases r1.atom
  cases r2.atom
  exact rW_of hr (hq H Q (q (.a z) z Hs H (Go.refl e) h (.a z)))
inductive AddW (Φ : Da → Prop) : Da → Da → Prop
  | int {i j : Int} : Φ (.int (i + j)) → AddW Φ (.int i) (.int j)
  | bi {c : Bool} {j : Int} : Φ (.int (b2i c + j)) → AddW Φ (.bl c) (.int j)
  | str {i j : Str} : i.length + j.length ≤ sizeLine → Φ (.str (i ++ j)) → AddW Φ (.str i) (.str j)
  | lst {l r : List Da} : l.length + r.length ≤ sizeLine → Φ (.lst (l ++ r)) → AddW Φ (.lst l) (.lst r)
  | tup {l r : List Da} : l.length + r.length ≤ sizeLine → Φ (.tup (l ++ r)) → AddW Φ (.tup l) (.tup r)
theorem de_add (h : DE X a δ fun x => DE X b δ fun y => AddW Φ x y) : DM X m (.BinOp a .Add b pos) δ Φ := de_bin (h.imp fun x hx => hx.imp fun y hy => by
  cases hy with
  | int h => exact ow_atom op_add (fun H Q q => ⟨_, _, rfl, rfl, q⟩) h
  | bi h => exact ow_atom op_add_bi (fun H Q q => ⟨_, _, rfl, rfl, q⟩) h
  | str hl h => exact ow_atom op_add_str (fun H Q q => ⟨_, _, rfl, rfl, hl, q⟩) h
  | lst hl h =>
    intro Hs H v w e r1 r2 Q q
    obtain ⟨p1, vs, rfl, h1, a1⟩ := r1.lst_inv
    obtain ⟨p2, ws, rfl, h2, a2⟩ := r2.lst_inv
    refine rW_of op_cat ⟨p1, p2, vs, ws, rfl, rfl, e _ _ h1, e _ _ h2, by rw [← a1.len, ← a2.len]; exact hl, fun p hp => q _ _ _ _ (Go.new e hp) h ?_⟩
    exact .lst upd_same ((a1.app a2).mono (same_upd (e.free hp)))
  | tup hl h =>
    intro Hs H v w e r1 r2 Q q
    obtain ⟨p1, vs, rfl, h1, a1⟩ := r1.tup_inv
    obtain ⟨p2, ws, rfl, h2, a2⟩ := r2.tup_inv
    refine rW_of op_catA ⟨p1, p2, vs, ws, rfl, rfl, .of (e _ _ h1), .of (e _ _ h2), by rw [← a1.len, ← a2.len]; exact hl, fun z => ?_, fun _ z => ?_, fun _ _ p hp => q _ _ _ _ (Go.new e hp) h ?_⟩
    · subst z
      cases a1
      exact q _ _ _ _ (Go.refl e) h r2
    · subst z
      cases a2
      rw [List.append_nil] at h
      exact q _ _ _ _ (Go.refl e) h r1
    · exact .tup upd_same ((a1.app a2).mono (same_upd (e.free hp))))
/-- two numbers, what is asked of them, what comes -/
inductive IntW (C : Int → Int → Prop) (g : Int → Int → Int) (Φ : Da → Prop) : Da → Da → Prop
  | mk {i j : Int} : C i j → Φ (.int (g i j)) → IntW C g Φ (.int i) (.int j)
inductive SubW (Φ : Da → Prop) : Da → Da → Prop
  | int {i j : Int} : Φ (.int (i - j)) → SubW Φ (.int i) (.int j)
  | bi {c : Bool} {j : Int} : Φ (.int (b2i c - j)) → SubW Φ (.bl c) (.int j)
  | ib {i : Int} {c : Bool} : Φ (.int (i - b2i c)) → SubW Φ (.int i) (.bl c)
theorem de_sub (h : DE X a δ fun x => DE X b δ fun y => SubW Φ x y) : DM X m (.BinOp a .Sub b pos) δ Φ := de_bin (h.imp fun x hx => hx.imp fun y hy => by
  cases hy with
  | int h => exact ow_atom op_sub (fun H Q q => ⟨_, _, rfl, rfl, q⟩) h
  | bi h => exact ow_atom op_sub_bi (fun H Q q => ⟨_, _, rfl, rfl, q⟩) h
  | ib h => exact ow_atom op_sub_ib (fun H Q q => ⟨_, _, rfl, rfl, q⟩) h)
theorem de_mul (h : DE X a δ fun x => DE X b δ fun y => IntW (fun i j => CMul i j ∨ CMulW i j) (fun i j => i * j) Φ x y) : DM X m (.BinOp a .Mult b pos) δ Φ := de_bin (h.imp fun x hx => hx.imp fun y hy => by
  cases hy with
  | mk hc h =>
    rcases hc with hc | hc
    · exact ow_atom op_mul (fun H Q q => ⟨_, _, rfl, rfl, hc, q⟩) h
    · exact ow_atom op_mulW (fun H Q q => ⟨_, _, rfl, rfl, hc, q⟩) h)
theorem de_mod (h : DE X a δ fun x => DE X b δ fun y => IntW (fun _ j => 0 < j) (fun i j => i % j) Φ x y) : DM X m (.BinOp a .Mod b pos) δ Φ := de_bin (h.imp fun x hx => hx.imp fun y hy => by
  cases hy with
  | mk hc h => exact ow_atom op_mod (fun H Q q => ⟨_, _, rfl, rfl, hc, q⟩) h)
theorem de_fdiv (h : DE X a δ fun x => DE X b δ fun y => IntW (fun _ j => 0 < j ∧ j < 1073741824) (fun i j => i / j) Φ x y) : DM X m (.BinOp a .FloorDiv b pos) δ Φ := de_bin (h.imp fun x hx => hx.imp fun y hy => by
  cases hy with
  | mk hc h => exact ow_atom op_fdiv (fun H Q q => ⟨_, _, rfl, rfl, hc, q⟩) h)
theorem de_pow (h : DE X a δ fun x => DE X b δ fun y => IntW CPow (fun i j => i ^ j.toNat) Φ x y) : DM X m (.BinOp a .Pow b pos) δ Φ := de_bin (h.imp fun x hx => hx.imp fun y hy => by
  cases hy with
  | mk hc h => exact ow_atom op_pow (fun H Q q => ⟨_, _, rfl, rfl, hc, q⟩) h)
theorem de_neg (h : DE X a δ fun x => ∃ i, x = .int i ∧ Φ (.int (-i))) : DM X m (.UnaryOp .USub a pos) δ Φ := DM.of <| .mk fun Bs B Hs H σ o Q q =>
  WE.of (pe_un un_neg pe_W) (h Bs B Hs H σ o _ fun x v Hs1 H1 g1 ⟨i, e, hb⟩ r1 => by
    subst e
    cases r1.atom
    exact ⟨i, rfl, q _ _ Hs1 H1 g1 hb (.a _)⟩)

/-! ### comparisons -/
/-- data that == tells -/
def Da.py : Da → PyData
  | .a .non => .none
  | .a (.bl b) => .bool b
  | .a (.int i) => .int i
  | .a (.str x) => .str x
  | .lst l => .list (l.map Da.py)
  | .tup l => .tuple (l.map Da.py)
  | _ => .none
mutual
inductive Pl : Da → Prop
  | non : Pl .non
  | bl (b : Bool) : Pl (.bl b)
  | int (i : Int) : Pl (.int i)
  | str (x : Str) : Pl (.str x)
  | lst {l : List Da} : PlAll l → Pl (.lst l)
  | tup {l : List Da} : PlAll l → Pl (.tup l)
inductive PlAll : List Da → Prop
  | nil : PlAll []
  | cons {d : Da} {l : List Da} : Pl d → PlAll l → PlAll (d :: l)
end
mutual
theorem Rp.dp {K : PySem.W.Frag} {H : Hp} : ∀ {d : Da} {v : V}, Pl d → Rp K H d v → Dp K H v d.py
  | _, _, .non, .a _ => by rw [Da.py]; exact .non
  | _, _, .bl b, .a _ => by rw [Da.py]; exact .bl b
  | _, _, .int i, .a _ => by rw [Da.py]; exact .int i
  | _, _, .str x, .a _ => by rw [Da.py]; exact .str x
  | _, _, .lst p, .lst h r => by rw [Da.py]; exact .lst (.of h) (RpAll.dp p r)
  | _, _, .tup p, .tup h r => by rw [Da.py]; exact .tup (.of h) (RpAll.dp p r)
theorem RpAll.dp {K : PySem.W.Frag} {H : Hp} : ∀ {ds : List Da} {vs : List V}, PlAll ds → RpAll K H ds vs → DpAll K H vs (ds.map Da.py)
  | _, _, .nil, .nil => .nil
  | _, _, .cons p ps, .cons r rs => .cons (Rp.dp p r) (RpAll.dp ps rs)
end
inductive CmpW (Φ : Bool → Prop) : CmpOp → Da → Da → Prop
  | eqS {x y : V} : scal x y = true → Φ (decide (x = y)) → CmpW Φ .Eq (.a x) (.a y)
  | neS {x y : V} : scal x y = true → Φ (!decide (x = y)) → CmpW Φ .NotEq (.a x) (.a y)
  | eqD {x y : Da} : Pl x → Pl y → SeqAt.shaped x.py = true → SeqAt.shaped y.py = true → Φ (PyData.eqv x.py y.py) → CmpW Φ .Eq x y
  | neD {x y : Da} : Pl x → Pl y → SeqAt.shaped x.py = true → SeqAt.shaped y.py = true → Φ (!PyData.eqv x.py y.py) → CmpW Φ .NotEq x y
  | lt {i j : Int} : Φ (decide (i < j)) → CmpW Φ .Lt (.int i) (.int j)
  | le {i j : Int} : Φ (decide (i ≤ j)) → CmpW Φ .LtE (.int i) (.int j)
  | gt {i j : Int} : Φ (decide (j < i)) → CmpW Φ .Gt (.int i) (.int j)
  | ge {i j : Int} : Φ (decide (j ≤ i)) → CmpW Φ .GtE (.int i) (.int j)
  | ltS {i j : Str} : Φ (decide (i.cps.toList < j.cps.toList)) → CmpW Φ .Lt (.str i) (.str j)
  | inS {c : Nat} {z : Str} : Φ (decide (c ∈ z.cps.toList)) → CmpW Φ .In (.str ⟨#[c]⟩) (.str z)
  | notInS {c : Nat} {z : Str} : Φ (!decide (c ∈ z.cps.toList)) → CmpW Φ .NotIn (.str ⟨#[c]⟩) (.str z)
  | ltT {ns ms : List Int} : Φ (HT.lexLt ns ms) → CmpW Φ .Lt (.tup (ns.map Da.int)) (.tup (ms.map Da.int))
  | inF {x : V} {xs : List V} : flatV x = true → xs.all flatV = true → Φ (inV x xs) → CmpW Φ .In (.a x) (.lst (xs.map Da.a))
  | notInF {x : V} {xs : List V} : flatV x = true → xs.all flatV = true → Φ (!inV x xs) → CmpW Φ .NotIn (.a x) (.lst (xs.map Da.a))
  | inFT {x : V} {xs : List V} : flatV x = true → xs.all flatV = true → Φ (inV x xs) → CmpW Φ .In (.a x) (.tup (xs.map Da.a))
  | isN {x : V} : Φ (decide (x = .non)) → CmpW Φ .Is (.a x) .non
  | notN {x : V} : Φ (!decide (x = .non)) → CmpW Φ .IsNot (.a x) .non
  | isNs {x : Da} : (∀ v, x ≠ .a v) → Φ false → CmpW Φ .Is x .non
  | notNs {x : Da} : (∀ v, x ≠ .a v) → Φ true → CmpW Φ .IsNot x .non
  | inK {q : Key} {kvs : List (Key × V)} : Φ (valV kvs q).isSome → CmpW Φ .In (.a (kV q)) (.dk kvs)
  | notInK {q : Key} {kvs : List (Key × V)} : Φ (!(valV kvs q).isSome) → CmpW Φ .NotIn (.a (kV q)) (.dk kvs)
  | notInDT {x : Da} {l : List Da} : Pl x → Pl (.tup l) → SeqAt.shaped x.py = true → SeqAt.shaped (Da.tup l).py = true → PyData.depthAll (l.map Da.py) ≤ 60 → Φ (!(l.map Da.py).any fun z => PyData.eqv z x.py) → CmpW Φ .NotIn x (.tup l)
theorem Rp.isRef {K : PySem.W.Frag} {H : Hp} {x : Da} {v : V} (r : Rp K H x v) (h : ∀ v, x ≠ .a v) : ∃ p, v = .ref p := by
  cases r with
  | a v => exact absurd rfl (h v)
  | lst _ _ => exact ⟨_, rfl⟩
  | tup _ _ => exact ⟨_, rfl⟩
  | dk _ => exact ⟨_, rfl⟩
  | dt _ => exact ⟨_, rfl⟩
  | drw _ => exact ⟨_, rfl⟩
  | scr _ => exact ⟨_, rfl⟩
theorem cmp_run (S : Sc M X k N sc cs) {Φ : Bool → Prop} {op : CmpOp} {x y : Da} {H : Hp} {v w : V} (h : CmpW Φ op x y) (rx : Rp X.K H x v) (ry : Rp X.K H y w) {Q : VK} (q : ∀ c, Φ c → Q (.bl c) H) : rW X (compareOp op) v w H Q := by
  cases h with
  | eqS hs h => cases rx.atom; cases ry.atom; exact rW_of op_eq ⟨hs, q _ h⟩
  | neS hs h => cases rx.atom; cases ry.atom; exact rW_of op_ne ⟨hs, q _ h⟩
  | eqD p1 p2 s1 s2 h => exact rW_of (op_eqD S.room.units) ⟨_, _, rx.dp p1, ry.dp p2, s1, s2, q _ h⟩
  | neD p1 p2 s1 s2 h => exact rW_of (op_neD S.room.units) ⟨_, _, rx.dp p1, ry.dp p2, s1, s2, q _ h⟩
  | lt h => cases rx.atom; cases ry.atom; exact rW_of op_lt ⟨_, _, rfl, rfl, q _ h⟩
  | le h => cases rx.atom; cases ry.atom; exact rW_of op_le ⟨_, _, rfl, rfl, q _ h⟩
  | gt h => cases rx.atom; cases ry.atom; exact rW_of op_gt ⟨_, _, rfl, rfl, q _ h⟩
  | ge h => cases rx.atom; cases ry.atom; exact rW_of op_ge ⟨_, _, rfl, rfl, q _ h⟩
  | ltS h => cases rx.atom; cases ry.atom; exact rW_of op_lt_str ⟨_, _, rfl, rfl, q _ h⟩
  | inS h => cases rx.atom; cases ry.atom; exact rW_of op_in_sign ⟨_, _, rfl, rfl, q _ h⟩
  | notInS h => cases rx.atom; cases ry.atom; exact rW_of op_notIn_sign ⟨_, _, rfl, rfl, q _ h⟩
  | @ltT ns ms h =>
    obtain ⟨p1, vs, rfl, h1, a1⟩ := rx.tup_inv
    obtain ⟨p2, ws, rfl, h2, a2⟩ := ry.tup_inv
    have e1 : ns.map Da.int = (ns.map V.int).map Da.a := by rw [List.map_map]; rfl
    have e2 : ms.map Da.int = (ms.map V.int).map Da.a := by rw [List.map_map]; rfl
    rw [e1] at a1
    rw [e2] at a2
    rw [a1.atoms] at h1
    rw [a2.atoms] at h2
    exact rW_of (op_ltT (Nat.lt_of_le_of_lt (Nat.le_add_right _ _) S.room.units)) ⟨p1, p2, ns, ms, rfl, rfl, .of h1, .of h2, q _ h⟩
  | inF f1 f2 h =>
    cases rx.atom
    obtain ⟨p2, ws, rfl, h2, a2⟩ := ry.lst_inv
    rw [a2.atoms] at h2
    exact rW_of op_in_seq ⟨p2, _, rfl, .inl (.of h2), f1, f2, q _ h⟩
  | notInF f1 f2 h =>
    cases rx.atom
    obtain ⟨p2, ws, rfl, h2, a2⟩ := ry.lst_inv
    rw [a2.atoms] at h2
    exact rW_of op_notIn_seq ⟨p2, _, rfl, .inl (.of h2), f1, f2, q _ h⟩
  | inFT f1 f2 h =>
    cases rx.atom
    obtain ⟨p2, ws, rfl, h2, a2⟩ := ry.tup_inv
    rw [a2.atoms] at h2
    exact rW_of op_in_seq ⟨p2, _, rfl, .inr (.of h2), f1, f2, q _ h⟩
  | isN h => cases rx.atom; cases ry.atom; exact rW_of op_isN ⟨rfl, q _ h⟩
  | notN h => cases rx.atom; cases ry.atom; exact rW_of op_notN ⟨rfl, q _ h⟩
  | isNs hx h => obtain ⟨p, rfl⟩ := rx.isRef hx; cases ry.atom; exact rW_of op_isN ⟨rfl, q _ h⟩
  | notNs hx h => obtain ⟨p, rfl⟩ := rx.isRef hx; cases ry.atom; exact rW_of op_notN ⟨rfl, q _ h⟩
  | inK h =>
    cases rx.atom
    cases ry with
    | dk hd => exact rW_of (op_inK (by have := S.room.units; omega)) ⟨_, _, _, rfl, rfl, hd, q _ h⟩
  | notInK h =>
    cases rx.atom
    cases ry with
    | dk hd => exact rW_of (op_notInK (by have := S.room.units; omega)) ⟨_, _, _, rfl, rfl, hd, q _ h⟩
  | notInDT p1 p2 s1 s2 hl h =>
    have r2 := ry.dp p2
    rw [Da.py] at r2 s2
    exact rW_of (op_notInDT S.room.units) ⟨_, _, rx.dp p1, r2, s1, s2, hl, q _ h⟩
theorem de_cmp (S : Sc M X k N sc cs) {op : CmpOp} (hm : behindInMarks op b = false) (h : DV X a δ fun x => DV X b δ fun y => CmpW (fun c => Φ (.bl c)) op x y) : DM X m (.Compare a [op] [b] pos) δ Φ := DM.of <| .mk fun Bs B Hs H σ o Q q =>
  WE.of (pe_cmpR rW_ok pe_W pe_W hm) (h Bs B Hs H σ o _ fun x v Hs1 H1 g1 hb r1 => hb Bs B Hs1 H1 σ (o.mono g1) _ fun y w Hs2 H2 g2 hc r2 =>
    cmp_run S hc (Rp.mono g2.hh r1) r2 fun c p => q (.bl c) (.bl c) Hs2 H2 (g1.trans g2) p (.a _))
theorem dt_cmp (S : Sc M X k N sc cs) {Φ : Bool → Prop} {op : CmpOp} (hm : behindInMarks op b = false) (h : DV X a δ fun x => DV X b δ fun y => CmpW Φ op x y) : DT X (.Compare a [op] [b] pos) δ Φ := .mk fun Bs B Hs H σ o Q q =>
  WT.of (pt_cmpR rW_ok pe_W pe_W hm) (h Bs B Hs H σ o _ fun x v Hs1 H1 g1 hb r1 => hb Bs B Hs1 H1 σ (o.mono g1) _ fun y w Hs2 H2 g2 hc r2 =>
    cmp_run S hc (Rp.mono g2.hh r1) r2 fun c p => ⟨c, rfl, q c Hs2 H2 (g1.trans g2) p⟩)
theorem de_chain (S : Sc M X k N sc cs) {op op' : CmpOp} {c : Expr} (h : DV X a δ fun x => DV X b δ fun y => CmpW (fun z => (z = true → DV X c δ fun y' => CmpW (fun c => Φ (.bl c)) op' y y') ∧ (z = false → Φ (.bl false))) op x y)
    (hm : lastMarks [op, op'] [b, c] = false := by with_unfolding_all rfl) : DM X m (.Compare a [op, op'] [b, c] pos) δ Φ := DM.of <| .mk fun Bs B Hs H σ o Q q =>
  WE.of (pe_chain rW_ok rW_ok pe_W pe_W pe_W hm) (h Bs B Hs H σ o _ fun x v Hs1 H1 g1 hb r1 => hb Bs B Hs1 H1 σ (o.mono g1) _ fun y w Hs2 H2 g2 hc r2 =>
    cmp_run S hc (Rp.mono g2.hh r1) r2 fun z p => ⟨z, rfl, by
      cases z with
      | true => exact iteT (p.1 rfl Bs B Hs2 H2 σ ((o.mono g1).mono g2) _ fun y' w' Hs3 H3 g3 hd r3 => cmp_run S hd (Rp.mono g3.hh r2) r3 fun c p => q (.bl c) (.bl c) Hs3 H3 ((g1.trans g2).trans g3) p (.a _))
      | false => exact iteF (q (.bl false) (.bl false) Hs2 H2 (g1.trans g2) (p.2 rfl) (.a _))⟩)
theorem dt_chain (S : Sc M X k N sc cs) {Φ : Bool → Prop} {op op' : CmpOp} {c : Expr} (h : DV X a δ fun x => DV X b δ fun y => CmpW (fun z => (z = true → DV X c δ fun y' => CmpW Φ op' y y') ∧ (z = false → Φ false)) op x y)
    (hm : lastMarks [op, op'] [b, c] = false := by with_unfolding_all rfl) : DT X (.Compare a [op, op'] [b, c] pos) δ Φ := .mk fun Bs B Hs H σ o Q q =>
  WT.of (pt_chain rW_ok rW_ok pe_W pe_W pe_W hm) (h Bs B Hs H σ o _ fun x v Hs1 H1 g1 hb r1 => hb Bs B Hs1 H1 σ (o.mono g1) _ fun y w Hs2 H2 g2 hc r2 =>
    cmp_run S hc (Rp.mono g2.hh r1) r2 fun z p => ⟨z, rfl, by
      cases z with
      | true => exact iteT (p.1 rfl Bs B Hs2 H2 σ ((o.mono g1).mono g2) _ fun y' w' Hs3 H3 g3 hd r3 => cmp_run S hd (Rp.mono g3.hh r2) r3 fun c p => ⟨c, rfl, q c Hs3 H3 ((g1.trans g2).trans g3) p⟩)
      | false => exact iteF ⟨false, rfl, q false Hs2 H2 (g1.trans g2) (p.2 rfl)⟩⟩)

/-! ### tests -/
theorem DT.imp {Φ Ψ : Bool → Prop} (h : DT X e δ Φ) (hi : ∀ c, Φ c → Ψ c) : DT X e δ Ψ := .mk fun Bs B Hs H σ o Q q => h Bs B Hs H σ o Q fun c Hs' H' g p => q c Hs' H' g (hi c p)
theorem dt_val {Φ : Bool → Prop} (h : DV X e δ fun d => ∃ c, d = .bl c ∧ Φ c) (he : ∀ whole, isTrue e X.env whole = (do let v ← whole; standAt e.pos; holding [v] (truthy v)) := by intro _; rfl) : DT X e δ Φ := .mk fun Bs B Hs H σ o Q q =>
  WT.of (pt_val pe_W he) (h Bs B Hs H σ o _ fun d v Hs' H' g ⟨c, e1, p⟩ r => by
    subst e1
    cases r.atom
    exact ⟨c, rfl, q c Hs' H' g p⟩)
theorem dt_w {Φ : Bool → Prop} (h : DW X e δ Φ) : DT X e δ Φ := .mk fun Bs B Hs H σ o Q q => WT.of (pw_W.pt) (h Bs B Hs H σ o Q q)
theorem dw_and1 {Φ : Bool → Prop} (h : DT X a δ Φ) : DW X (.BoolOp .And [a] pos) δ Φ := .mk fun Bs B Hs H σ o Q q => WW.of (pw_and1 pt_W) (h Bs B Hs H σ o Q q)
theorem dw_or1 {Φ : Bool → Prop} (h : DT X a δ Φ) : DW X (.BoolOp .Or [a] pos) δ Φ := .mk fun Bs B Hs H σ o Q q => WW.of (pw_or1 pt_W) (h Bs B Hs H σ o Q q)
theorem dw_and {Φ : Bool → Prop} (h : DT X a δ fun c => (c = true → DW X (.BoolOp .And (b :: es) pos) δ Φ) ∧ (c = false → Φ false)) : DW X (.BoolOp .And (a :: b :: es) pos) δ Φ := .mk fun Bs B Hs H σ o Q q =>
  WW.of (pw_and pt_W pw_W) (h Bs B Hs H σ o _ fun c Hs' H' g p => by
    cases c with
    | true => exact iteT (p.1 rfl Bs B Hs' H' σ (o.mono g) Q fun c Hs2 H2 g2 p => q c Hs2 H2 (g.trans g2) p)
    | false => exact iteF (q false Hs' H' g (p.2 rfl)))
theorem dw_or {Φ : Bool → Prop} (h : DT X a δ fun c => (c = true → Φ true) ∧ (c = false → DW X (.BoolOp .Or (b :: es) pos) δ Φ)) : DW X (.BoolOp .Or (a :: b :: es) pos) δ Φ := .mk fun Bs B Hs H σ o Q q =>
  WW.of (pw_or pt_W pw_W) (h Bs B Hs H σ o _ fun c Hs' H' g p => by
    cases c with
    | true => exact iteT (q true Hs' H' g (p.1 rfl))
    | false => exact iteF (p.2 rfl Bs B Hs' H' σ (o.mono g) Q fun c Hs2 H2 g2 p => q c Hs2 H2 (g.trans g2) p))
theorem dt_not {Φ : Bool → Prop} (h : DT X a δ fun c => Φ (!c)) : DT X (.UnaryOp .Not a pos) δ Φ := .mk fun Bs B Hs H σ o Q q => WT.of (pt_not pt_W) (h Bs B Hs H σ o _ fun c Hs' H' g p => q (!c) Hs' H' g p)
/-- .. as values -/
theorem de_one {op} (h : DM X m a δ Φ) : DM X m (.BoolOp op [a] pos) δ Φ := .mk fun Bs B Hs H σ o Q q => WE.of (pe_one pe_W) (h Bs B Hs H σ o Q q)
theorem de_and (h : DV X a δ fun d => ∃ c, d = .bl c ∧ (c = true → DM X m (.BoolOp .And (b :: es) pos) δ Φ) ∧ (c = false → Φ (.bl false))) : DM X m (.BoolOp .And (a :: b :: es) pos) δ Φ := .mk fun Bs B Hs H σ o Q q =>
  WE.of (pe_and pe_W pe_W) (h Bs B Hs H σ o _ fun d v Hs' H' g ⟨c, e1, p1, p2⟩ r => by
    subst e1
    cases r.atom
    refine ⟨c, rfl, ?_⟩
    cases c with
    | true => exact iteT (p1 rfl Bs B Hs' H' σ (o.mono g) Q fun d v Hs2 H2 g2 p r => q d v Hs2 H2 (g.trans g2) p r)
    | false => exact iteF (q (.bl false) _ Hs' H' g (p2 rfl) (.of g.sub (.a _))))
theorem de_or (h : DV X a δ fun d => ∃ c, d = .bl c ∧ (c = true → Φ (.bl true)) ∧ (c = false → DM X m (.BoolOp .Or (b :: es) pos) δ Φ)) : DM X m (.BoolOp .Or (a :: b :: es) pos) δ Φ := .mk fun Bs B Hs H σ o Q q =>
  WE.of (pe_or pe_W pe_W) (h Bs B Hs H σ o _ fun d v Hs' H' g ⟨c, e1, p1, p2⟩ r => by
    subst e1
    cases r.atom
    refine ⟨c, rfl, ?_⟩
    cases c with
    | true => exact iteT (q (.bl true) _ Hs' H' g (p1 rfl) (.of g.sub (.a _)))
    | false => exact iteF (p2 rfl Bs B Hs' H' σ (o.mono g) Q fun d v Hs2 H2 g2 p r => q d v Hs2 H2 (g.trans g2) p r))
theorem de_not (h : DV X a δ fun d => ∃ c, d = .bl c ∧ Φ (.bl (!c))) : DM X m (.UnaryOp .Not a pos) δ Φ := DM.of <| .mk fun Bs B Hs H σ o Q q =>
  WE.of (pe_not pe_W) (h Bs B Hs H σ o _ fun d v Hs' H' g ⟨c, e1, p⟩ r => by
    subst e1
    cases r.atom
    exact ⟨c, rfl, q _ _ Hs' H' g p (.a _)⟩)
theorem de_ifE {c : Expr} (h : DT X c δ fun z => (z = true → DM X m a δ Φ) ∧ (z = false → DM X m b δ Φ)) : DM X m (.IfExp c a b pos) δ Φ := .mk fun Bs B Hs H σ o Q q =>
  WE.of (pe_ifExp pt_W pe_W pe_W) (h Bs B Hs H σ o _ fun z Hs' H' g p => by
    cases z with
    | true => exact iteT (p.1 rfl Bs B Hs' H' σ (o.mono g) Q fun d v Hs2 H2 g2 p r => q d v Hs2 H2 (g.trans g2) p r)
    | false => exact iteF (p.2 rfl Bs B Hs' H' σ (o.mono g) Q fun d v Hs2 H2 g2 p r => q d v Hs2 H2 (g.trans g2) p r))
end
end DL

/-! DL3: arguments, displays, places, slices, calls, methods, loops, comprehensions, statements, defs. -/
namespace DL
open PySem PySem.Spec PyProof.Rows L2
section
variable {M : Md} {X : Cx} {k : Nat} {N : List Str} {sc cs : Scope} {δ δ' : Sg} {m : Bool} {Φ Ψ : Da → Prop} {x : Str} {pos p2 p3 apos : Pos} {e a b o : Expr} {es : List Expr}

/-! ### argument lists -/
theorem da_nil {Φ : List Da → Prop} (h : Φ []) : DA X [] [] δ Φ := .mk fun Bs B Hs H σ o Q q => WA.of pa_nil (q [] [] Hs H (Go.refl o.sub) h .nil)
theorem da_cons {ms : List Bool} {Φ : List Da → Prop} (h : DM X m e δ fun d => DA X ms es δ fun ds => Φ (d :: ds)) (hs : starEach (e :: es) X.env = (false, eval e X.env) :: starEach es X.env := by rfl) : DA X (m :: ms) (e :: es) δ Φ := .mk fun Bs B Hs H σ o Q q =>
  WA.of (pa_cons pe_W pa_W hs) (h Bs B Hs H σ o _ fun d v Hs1 H1 g1 hb r1 => hb Bs B Hs1 H1 σ (o.mono g1) _ fun ds vs Hs2 H2 g2 p r2 => q _ _ Hs2 H2 (g1.trans g2) p (.cons (r1.mono g2) r2))
/-- .. all stable -/
structure DAt (X : Cx) (es : List Expr) (δ : Sg) (Φ : List Da → Prop) : Prop where
  run : ∀ Bs B Hs H σ, Ok X.K Bs B Hs H σ δ → ∀ Q : List V → Hp → Prop, (∀ ds vs Hs' H', Go Hs H Hs' H' → Φ ds → RpAll X.K Hs' ds vs → ds.length = es.length → Q vs H') → WA X es σ H Q
instance {X : Cx} {es : List Expr} {δ : Sg} {Φ : List Da → Prop} : CoeFun (DAt X es δ Φ) (fun _ => ∀ Bs B Hs H σ, Ok X.K Bs B Hs H σ δ → ∀ Q : List V → Hp → Prop, (∀ ds vs Hs' H', Go Hs H Hs' H' → Φ ds → RpAll X.K Hs' ds vs → ds.length = es.length → Q vs H') → WA X es σ H Q) := ⟨fun h => h.run⟩
theorem dat_nil {Φ : List Da → Prop} (h : Φ []) : DAt X [] δ Φ := .mk fun Bs B Hs H σ o Q q => WA.of pa_nil (q [] [] Hs H (Go.refl o.sub) h .nil rfl)
theorem dat_cons {Φ : List Da → Prop} (h : DE X e δ fun d => DAt X es δ fun ds => Φ (d :: ds)) (hs : starEach (e :: es) X.env = (false, eval e X.env) :: starEach es X.env := by rfl) : DAt X (e :: es) δ Φ := .mk fun Bs B Hs H σ o Q q =>
  WA.of (pa_cons pe_W pa_W hs) (h Bs B Hs H σ o _ fun d v Hs1 H1 g1 hb r1 => hb Bs B Hs1 H1 σ (o.mono g1) _ fun ds vs Hs2 H2 g2 p r2 hl => q _ _ Hs2 H2 (g1.trans g2) p (.cons (Rp.mono g2.ss r1) r2) (by simp [hl]))
/-! ### displays -/
theorem de_tup {j} (h : DAt X es δ fun ds => Φ (.tup ds)) (hl : es.length ≤ sizeLine := by decide) : DM X m (.Tuple es j pos) δ Φ := DM.of <| .mk fun Bs B Hs H σ o Q q =>
  WE.of (pe_tup pa_W) (h Bs B Hs H σ o _ fun ds vs Hs1 H1 g1 p r hd => ⟨by rw [← r.len, hd]; exact hl, fun a ha => q _ _ _ _ (g1.trans (Go.new g1.sub ha)) p (.tup upd_same (r.mono (same_upd (g1.sub.free ha))))⟩)
theorem de_lst (h : DAt X es δ fun ds => Φ (.lst ds)) (hl : es.length ≤ sizeLine := by decide) : DM X m (.List es pos) δ Φ := DM.of <| .mk fun Bs B Hs H σ o Q q =>
  WE.of (pe_lst pa_W) (h Bs B Hs H σ o _ fun ds vs Hs1 H1 g1 p r hd => ⟨by rw [← r.len, hd]; exact hl, fun a ha => q _ _ _ _ (g1.trans (Go.new g1.sub ha)) p (.lst upd_same (r.mono (same_upd (g1.sub.free ha))))⟩)

/-! ### a[b] -/
def rIW (X : Cx) (f : Expr → Expr → Prop) : R2 := fun x y H Q => ∀ (value slice : Expr) pins s σ v u, Inv X pins σ H s → RelV x v → RelV y u →
  subscripted slice false v u = operate [v, u] (getItem v u) → wpAny (model X.prog X.w) X.A (subscriptTail value slice v u) (EP X pins σ Q) X.xe s
abbrev rIx0 (X : Cx) : R2 := rIW X fun _ _ => True
theorem rIx0_ok : IxR X (rIx0 X) := fun value slice pins s σ H x y v u Q I rx ry h hs => h value slice pins s σ v u I rx ry hs
theorem rIx0_of {r : R2} (h : IxR X r) {x y : V} {H : Hp} {Q : VK} (q : r x y H Q) : rIx0 X x y H Q := fun value slice pins s σ v u I rx ry hs => h value slice pins s σ H x y v u Q I rx ry q hs
theorem ix_dict (hu : X.A.units + 1 < cLine) : IxR X (fun x y H Q => ∃ a v, x = .ref a ∧ DGet H a y (some v) ∧ Q v H) := by
  rintro value slice pins s σ H x y _ u Q I rx ry ⟨a, z, rfl, g, q⟩ hs
  cases rx
  have hT := dict_typeIs I g
  unfold subscriptTail
  apply wpAny_bind
  rw [getitemInPython_of_ne (hT.not_modules)]
  refine wpAny_bind (wpAny_specialOf hT PySem.F.slot_dict_getitem.lookup ?_)
  have fin : wpAny (model X.prog X.w) X.A (subscripted slice false (.ref a) u) (fun r s₃ => wpAny (model X.prog X.w) X.A (letTemporaryGo value (.ref a) r >>= fun _ => pure r) (EP X pins σ Q) X.xe s₃) X.xe s := by
    rw [hs]
    exact wpAny_operating (wpAny_mono (d_getItem hu I g ry fun w' s3 I3 rw' => (⟨z, H, I3, rw', q⟩ : EP X pins σ Q w' s3)) (fun r s₃ h₃ => wpAny_bind (wpAny_letTemporaryGo (wpAny_pure h₃))) fun _ _ x => x)
  have fin2 := wpAny_bind fin
  first | exact wpAny_pure fin2 | exact wpAny_bind (wpAny_pure fin2) | exact fin2
/-- draws[0], draws[1]: a whole number -/
theorem ix_drw : IxR X (fun x y H Q => ∃ p i, x = .ref p ∧ H p = some (.ext (Drw p)) ∧ y = .int i ∧ (i = 0 ∨ i = 1) ∧ ∀ z, (i = 1 → 0 ≤ z ∧ z < 2147483648) → Q (.int z) H) := by
  rintro value slice pins s σ H x y v u Q I rx ry ⟨p, i, rfl, hp, rfl, hi, q⟩ hs
  cases rx
  obtain ⟨t, rfl⟩ := ry
  obtain ⟨⟨n, a, b, ta, tb, ho, hb⟩, _, _⟩ := I.hok p _ hp
  have hl : s.heap.IsList p #[.int a ta, .int b tb] := ⟨_, ho, rfl, n, rfl⟩
  rcases hi with rfl | rfl
  · exact item_listR hl (by decide) (by decide) rfl ⟨.int a, H, I, ⟨_, rfl⟩, q a (fun z => nomatch z)⟩ hs
  · exact item_listR hl (by decide) (by decide) rfl ⟨.int b, H, I, ⟨_, rfl⟩, q b (fun _ => hb)⟩ hs
inductive IxW (Φ : Da → Prop) : Da → Da → Prop
  | lst {l : List Da} {i : Int} {d : Da} : atI l i = some d → Φ d → IxW Φ (.lst l) (.int i)
  | tup {l : List Da} {i : Int} {d : Da} : atI l i = some d → Φ d → IxW Φ (.tup l) (.int i)
  | str {z : Str} {i : Int} {c : Nat} : z.length ≤ sizeLine → atI z.cps.toList i = some c → Φ (.str ⟨#[c]⟩) → IxW Φ (.str z) (.int i)
  | drw {i : Int} : (i = 0 ∨ i = 1) → (∀ z, (i = 1 → 0 ≤ z ∧ z < 2147483648) → Φ (.int z)) → IxW Φ .drw (.int i)
  | scr {ns : List Int} {i z : Int} : atI ns i = some z → Φ (.int z) → IxW Φ (.scr ns) (.int i)
  | dk {kvs : List (Key × V)} {y : V} {q : Key} {v : V} : y = kV q → valV kvs q = some v → Φ (.a v) → IxW Φ (.dk kvs) (.a y)
  | dt {kvs : List (List Key × V)} {ks : List Da} {q : List Key} {v : V} : ks = (q.map kV).map Da.a → valV kvs q = some v → Φ (.a v) → IxW Φ (.dt kvs) (.tup ks)
theorem atI_rp {K : PySem.W.Frag} {H : Hp} {l : List Da} {vs : List V} {i : Int} {d : Da} (r : RpAll K H l vs) (h : atI l i = some d) : ∃ v, atI vs i = some v ∧ Rp K H d v := by
  unfold atI at h ⊢
  rw [← r.len]
  cases e : ixN l.length i with
  | none => rw [e] at h; cases h
  | some j =>
    rw [e] at h
    exact r.get h
theorem ix_run (S : Sc M X k N sc cs) {x y : Da} {Hc Hs H : Hp} {v w : V} (h : IxW Φ x y) (e1 : Same Hc H) (e2 : Same Hs H) (rx : Rp X.K Hc x v) (ry : Rp X.K Hs y w) {Q : VK} (q : ∀ d z, Φ d → Rp X.K Hc d z → Q z H) : rIx0 X v w H Q := by
  have hu : X.A.units + 1 < cLine := by have := S.room.units; omega
  cases h with
  | lst h p =>
    obtain ⟨a, vs, rfl, ha, r⟩ := rx.lst_inv
    cases ry.atom
    obtain ⟨z, hz, rz⟩ := atI_rp r h
    exact rIx0_of ix_list ⟨a, vs, _, z, rfl, rfl, .of (e1 _ _ ha), hz, q _ _ p rz⟩
  | tup h p =>
    obtain ⟨a, vs, rfl, ha, r⟩ := rx.tup_inv
    cases ry.atom
    obtain ⟨z, hz, rz⟩ := atI_rp r h
    exact rIx0_of ix_tup ⟨a, vs, _, z, rfl, rfl, .of (e1 _ _ ha), hz, q _ _ p rz⟩
  | str hl h p =>
    cases rx.atom
    cases ry.atom
    exact rIx0_of ix_str ⟨_, _, _, rfl, rfl, hl, h, q _ _ p (.a _)⟩
  | scr hz p =>
    cases ry.atom
    cases rx with
    | scr ha =>
      refine rIx0_of ix_list ⟨_, _, _, .int _, rfl, rfl, sqlS e1 ha, ?_, q _ _ p (.a _)⟩
      unfold atI at hz ⊢
      rw [List.length_map]
      cases hh : ixN _ _ with
      | none => rw [hh] at hz; cases hz
      | some j =>
        rw [hh] at hz
        have hz' : _ = _ := hz
        show (List.map V.int _)[j]? = _
        rw [List.getElem?_map]
        have hz2 := hz
        simp only [Option.bind_some] at hz2
        rw [hz2]
        rfl
  | drw hi p =>
    obtain ⟨a, rfl, ha⟩ := rx.drw_inv
    cases ry.atom
    exact rIx0_of ix_drw ⟨a, _, rfl, e1 _ _ ha, rfl, hi, fun z hz => q _ _ (p z hz) (.a _)⟩
  | dk ey h p =>
    obtain ⟨a, rfl, ha⟩ := rx.dk_inv
    cases ry.atom
    subst ey
    exact rIx0_of (ix_dict hu) ⟨a, _, rfl, .inl ⟨_, _, .inl (e1 _ _ ha), rfl, h.symm⟩, q _ _ p (.a _)⟩
  | dt ey h p =>
    obtain ⟨a, rfl, ha⟩ := rx.dt_inv
    obtain ⟨b, vs, rfl, hb, r⟩ := ry.tup_inv
    subst ey
    rw [r.atoms] at hb
    exact rIx0_of (ix_dict hu) ⟨a, _, rfl, .inr ⟨_, _, b, rdS e1 ha, rfl, e2 _ _ hb, h.symm⟩, q _ _ p (.a _)⟩
theorem de_ix (S : Sc M X k N sc cs) (h : DM X m a δ fun x => DE X b δ fun y => IxW Φ x y) (hs : PlainIx b := by intro _ _; rfl) : DM X m (.Subscript a b pos) δ Φ := .mk fun Bs B Hs H σ o Q q =>
  WE.of (pe_ix rIx0_ok pe_W pe_W hs) (h Bs B Hs H σ o _ fun x v Hs1 H1 g1 hb r1 => hb Bs B Hs1 H1 σ (o.mono g1) _ fun y w Hs2 H2 g2 p r2 => by
    cases m with
    | true => exact ix_run S p g2.sub g2.sub (Rp.mono g2.ss r1) r2 fun d z pd rd => q d z Hs2 H2 (g1.trans g2) pd rd
    | false => exact ix_run S p (Same.refl _) g2.sub (Rp.mono g2.hh r1) r2 fun d z pd rd => q d z Hs2 H2 (g1.trans g2) pd rd)
/-- of an own object, an atom -/
theorem de_ixA (S : Sc M X k N sc cs) (h : DV X a δ fun x => DE X b δ fun y => IxW (fun d => ∃ v, d = .a v ∧ Φ (.a v)) x y) (hs : PlainIx b := by intro _ _; rfl) : DM X m (.Subscript a b pos) δ Φ := DM.of <| .mk fun Bs B Hs H σ o Q q =>
  WE.of (pe_ix rIx0_ok pe_W pe_W hs) (h Bs B Hs H σ o _ fun x v Hs1 H1 g1 hb r1 => hb Bs B Hs1 H1 σ (o.mono g1) _ fun y w Hs2 H2 g2 p r2 =>
    ix_run S p (Same.refl _) g2.sub (Rp.mono g2.hh r1) r2 fun d z ⟨v, e1, pd⟩ rd => by
      subst e1
      cases rd.atom
      exact q _ _ Hs2 H2 (g1.trans g2) pd (.a _))
/-- an item of an own list -/
theorem de_ixO (S : Sc M X k N sc cs) {l : List Da} (hg : Gt N δ x (.ol l)) (hv : visB sc x = true) (h : DE X b δ fun y => ∃ i d, y = .int i ∧ atI l i = some d ∧ Φ d) (hs : PlainIx b := by intro _ _; rfl) : DM X m (.Subscript (.Name x p2) b pos) δ Φ := DM.of <| .mk fun Bs B Hs H σ o Q q => by
  obtain ⟨i, h1, h2⟩ := hg.at
  obtain ⟨v, h3, p, vs, rfl, e1, e2, r⟩ := o.slot i _ h2
  obtain ⟨v1, v2, v3⟩ := visB_ok hv
  refine WE.of (pe_ix rIx0_ok (pe_var (i := i) (by rw [S.n]; exact h1) (by rw [S.hsc]; exact v1) v2 v3) pe_W hs) ⟨_, h3, h Bs B Hs H σ o _ fun y w Hs2 H2 g2 ⟨j, d, ey, hj, pd⟩ r2 => ?_⟩
  subst ey
  cases r2.atom
  obtain ⟨z, hz, rz⟩ := atI_rp r hj
  exact rIx0_of ix_list ⟨p, vs, _, z, rfl, rfl, .of (g2.hh _ _ e2), hz, q d z Hs2 H2 g2 pd (Rp.mono g2.ss rz)⟩

/-! ### slices -/
def DP (X : Cx) (o : Option Expr) (δ : Sg) (Φ : Option Int → Prop) : Prop := match o with
  | none => Φ none
  | some e => DE X e δ fun d => ∃ i, d = .int i ∧ Φ (some i)
def WP (X : Cx) (o : Option Expr) : TO := match o with
  | none => tNoPart
  | some e => tPart (WE X e)
theorem po_W {o : Option Expr} : PO X o (WP X o) := by
  cases o with
  | none => exact po_none
  | some e => exact po_some pe_W
theorem DP.run {oo : Option Expr} {Φ : Option Int → Prop} (h : DP X oo δ Φ) {Bs B Hs H : Hp} {σ : L2.St} (o : Ok X.K Bs B Hs H σ δ) {Q : Option Int → Hp → Prop} (q : ∀ i Hs' H', Go Hs H Hs' H' → Φ i → Q i H') : WP X oo σ H Q := by
  cases oo with
  | none => exact q none Hs H (Go.refl o.sub) h
  | some e =>
    refine (show DE X e δ _ from h) Bs B Hs H σ o _ fun d v Hs' H' g ⟨i, e1, p⟩ r => ?_
    subst e1
    cases r.atom
    exact ⟨i, rfl, q _ Hs' H' g p⟩
def cutL {α : Type} (xs : List α) (lo hi : Option Int) : List α := (xs.drop (HT.sIx xs.length 0 lo)).take (HT.sIx xs.length xs.length hi - HT.sIx xs.length 0 lo)
def rSW (X : Cx) : V → Option Int → Option Int → Hp → VK → Prop := fun x lo hi H Q => ∀ pins s σ v vl vu sl, Inv X pins σ H s → RelV x v → s.heap.IsSliceOf sl vl vu .none → IsPart vl lo → IsPart vu hi →
    ∃ T id, typeLookup (.type T) "__getitem__" = pure (some (.builtin id)) ∧ s.TypeIs v T ∧ wpAny (model X.prog X.w) X.A (getItem v (.ref sl)) (EP X pins σ Q) X.xe s
theorem rSW_ok : SlR X (rSW X) := fun pins s σ H x v vl vu lo hi sl Q I rx hs pl pu h => h pins s σ v vl vu sl I rx hs pl pu
theorem rSW_of {r : V → Option Int → Option Int → Hp → VK → Prop} (h : SlR X r) {x : V} {lo hi : Option Int} {H : Hp} {Q : VK} (q : r x lo hi H Q) : rSW X x lo hi H Q := fun pins s σ v vl vu sl I rx hs pl pu => h pins s σ H x v vl vu lo hi sl Q I rx hs pl pu q
inductive SlW (Φ : Da → Prop) (lo hi : Option Int) : Da → Prop
  | str {z : Str} : z.length ≤ sizeLine → Φ (.str (cutS z lo hi)) → SlW Φ lo hi (.str z)
  | lst {l : List Da} : Φ (.lst (cutL l lo hi)) → SlW Φ lo hi (.lst l)
  | tup {l : List Da} : Φ (.tup (cutL l lo hi)) → SlW Φ lo hi (.tup l)
theorem cutL_rp {K : PySem.W.Frag} {H : Hp} {l : List Da} {vs : List V} {lo hi : Option Int} (r : RpAll K H l vs) : RpAll K H (cutL l lo hi) (cutV vs lo hi) := by
  unfold cutL cutV
  rw [r.len]
  exact (r.drop _).take _
theorem de_slice {lo hi : Option Expr} (h : DE X a δ fun x => DP X lo δ fun l => DP X hi δ fun u => SlW Φ l u x) : DM X m (.Subscript a (.Slice lo hi none p2) pos) δ Φ := DM.of <| .mk fun Bs B Hs H σ o Q q =>
  WE.of (pe_slice rSW_ok pe_W po_W po_W) (h Bs B Hs H σ o _ fun x v Hs1 H1 g1 h1 r1 => h1.run (o.mono g1) fun l Hs2 H2 g2 h2 => h2.run ((o.mono g1).mono g2) fun u Hs3 H3 g3 h3 => by
    have r := Rp.mono (g2.trans g3).ss r1
    have g := (g1.trans g2).trans g3
    cases h3 with
    | str hl p => cases r.atom; exact rSW_of sl_str ⟨_, rfl, hl, q _ _ Hs3 H3 g p (.a _)⟩
    | lst p =>
      obtain ⟨a, vs, rfl, ha, ra⟩ := r.lst_inv
      exact rSW_of sl_list ⟨a, vs, rfl, .of (g3.sub _ _ ha), fun b hb => q _ _ _ _ (g.trans (Go.new g.sub hb)) p (.lst upd_same ((cutL_rp ra).mono (same_upd (g.sub.free hb))))⟩
    | @tup l' p =>
      obtain ⟨a, vs, rfl, ha, ra⟩ := r.tup_inv
      refine rSW_of sl_tupA ⟨a, vs, rfl, .of (g3.sub _ _ ha), fun z => q _ _ Hs3 H3 g p ?_, fun _ b hb => q _ _ _ _ (g.trans (Go.new g.sub hb)) p (.tup upd_same ((cutL_rp ra).mono (same_upd (g.sub.free hb))))⟩
      have e : cutL l' l u = l' := by
        unfold cutL
        rw [ra.len, z.1, z.2, Nat.sub_zero, List.drop_zero, ← ra.len, List.take_length]
      rw [e]
      exact .tup ha ra)

/-! ### calls of built-in functions -/
def rCW (X : Cx) (f : Value) : List V → Hp → VK → Prop := fun xs H Q => ∀ pins s σ us, Inv X pins σ H s → Vals xs us → wpAny (model X.prog X.w) X.A (call f us) (EP X pins σ Q) X.xe s
theorem rCW_ok {f : Value} : CallR X f (rCW X f) := fun pins s σ H xs us Q I r h => h pins s σ us I r
theorem rCW_of {f : Value} {r : List V → Hp → VK → Prop} (h : CallR X f r) {xs : List V} {H : Hp} {Q : VK} (q : r xs H Q) : rCW X f xs H Q := fun pins s σ us I rr => h pins s σ H xs us Q I rr q
def BW (X : Cx) (f : Value) (ds : List Da) (Φ : Da → Prop) : Prop := ∀ Hs H vs, Same Hs H → RpAll X.K Hs ds vs → ∀ Q : VK, (∀ d z Hs' H', Go Hs H Hs' H' → Φ d → Rp X.K Hs' d z → Q z H') → rCW X f vs H Q
theorem de_callB (S : Sc M X k N sc cs) {id : String} (hm : M.mg x = none) (hv : bootBuiltins x = some (.builtin id)) (hg : glB sc x = true) (h : DAt X (e :: es) δ fun ds => BW X (.builtin id) ds Φ)
    (he : starEach (e :: es) X.env = (false, eval e X.env) :: starEach es X.env := by rfl) (hpl : (backTo pos (starEach es X.env)).any (·.1) = false := by rfl) : DM X m (.Call (.Name x p2) (e :: es) [] pos) δ Φ := DM.of <| .mk fun Bs B Hs H σ o Q q => by
  obtain ⟨g1, g2, g3⟩ := glB_ok hg
  exact WE.of (pe_callB rCW_ok (by show X.env.scope.names.lookup x = _; rw [S.hsc]; exact g1) (by rw [S.hmg]; exact hm) hv pa_W g3 g2 he hpl) (h Bs B Hs H σ o _ fun ds vs Hs1 H1 gg p r _ => p Hs1 H1 vs gg.sub r Q fun d z Hs' H' g' pd rd => q d z Hs' H' (gg.trans g') pd rd)
theorem de_callTy (S : Sc M X k N sc cs) {T : String} (hm : M.mg x = none) (hv : bootBuiltins x = some (.type T)) (hg : glB sc x = true) (h : DAt X (e :: es) δ fun ds => BW X (.type T) ds Φ)
    (he : starEach (e :: es) X.env = (false, eval e X.env) :: starEach es X.env := by rfl) (hpl : (backTo pos (starEach es X.env)).any (·.1) = false := by rfl) : DM X m (.Call (.Name x p2) (e :: es) [] pos) δ Φ := DM.of <| .mk fun Bs B Hs H σ o Q q => by
  obtain ⟨g1, g2, g3⟩ := glB_ok hg
  exact WE.of (pe_callTy rCW_ok (by show X.env.scope.names.lookup x = _; rw [S.hsc]; exact g1) (by rw [S.hmg]; exact hm) hv pa_W g3 g2 he hpl) (h Bs B Hs H σ o _ fun ds vs Hs1 H1 gg p r _ => p Hs1 H1 vs gg.sub r Q fun d z Hs' H' g' pd rd => q d z Hs' H' (gg.trans g') pd rd)
theorem bw_atoms {f : Value} {r : List V → Hp → VK → Prop} (hr : CallR X f r) {xs : List V} {z : V} (hq : ∀ (H : Hp) (Q : VK), Q z H → r xs H Q) (h : Φ (.a z)) : BW X f (xs.map Da.a) Φ := fun Hs H vs e rr Q q => by
  rw [rr.atoms]
  exact rCW_of hr (hq H Q (q _ _ Hs H (Go.refl e) h (.a _)))
theorem bw_lenS {z : Str} (hl : z.length ≤ sizeLine) (h : Φ (.int z.length)) : BW X (.builtin "len") [.str z] Φ := bw_atoms (xs := [.str z]) call_len_str (fun H Q q => ⟨z, rfl, hl, q⟩) h
theorem bw_lenL {l : List Da} (h : Φ (.int l.length)) : BW X (.builtin "len") [.lst l] Φ := fun Hs H vs e rr Q q => by
  cases rr with
  | cons r t =>
    cases t
    obtain ⟨a, ws, rfl, ha, ra⟩ := r.lst_inv
    exact rCW_of call_len_seq ⟨a, ws, rfl, .inl (.of (e _ _ ha)), q _ _ Hs H (Go.refl e) h (by rw [ra.len]; exact .a _)⟩
theorem bw_lenT {l : List Da} (h : Φ (.int l.length)) : BW X (.builtin "len") [.tup l] Φ := fun Hs H vs e rr Q q => by
  cases rr with
  | cons r t =>
    cases t
    obtain ⟨a, ws, rfl, ha, ra⟩ := r.tup_inv
    exact rCW_of call_len_seq ⟨a, ws, rfl, .inr (.of (e _ _ ha)), q _ _ Hs H (Go.refl e) h (by rw [ra.len]; exact .a _)⟩
theorem bw_lenC {l : List Int} (h : Φ (.int l.length)) : BW X (.builtin "len") [.scr l] Φ := fun Hs H vs e rr Q q => by
  cases rr with
  | cons r t =>
    cases t
    cases r with
    | scr ha =>
      exact rCW_of call_len_seq ⟨_, _, rfl, .inl (sqlS e ha), q _ _ Hs H (Go.refl e) h (by rw [List.length_map]; exact .a _)⟩
theorem bw_max (S : Sc M X k N sc cs) {i j : Int} (h : Φ (.int (if j > i then j else i))) : BW X (.builtin "max") [.int i, .int j] Φ := bw_atoms (xs := [.int i, .int j]) (call_max2 S.calm) (fun H Q q => ⟨_, _, rfl, q⟩) h
theorem bw_min (S : Sc M X k N sc cs) {i j : Int} (h : Φ (.int (if j < i then j else i))) : BW X (.builtin "min") [.int i, .int j] Φ := bw_atoms (xs := [.int i, .int j]) (call_min2 S.calm) (fun H Q q => ⟨_, _, rfl, q⟩) h
theorem bw_abs {i : Int} (h : Φ (.int (if i < 0 then -i else i))) : BW X (.builtin "abs") [.int i] Φ := bw_atoms (xs := [.int i]) call_abs (fun H Q q => ⟨_, rfl, q⟩) h
theorem bw_intB {c : Bool} (h : Φ (.int (if c then 1 else 0))) : BW X (.type "int") [.bl c] Φ := bw_atoms (xs := [.bl c]) call_int1 (fun H Q q => .inr ⟨_, rfl, q⟩) h
theorem bw_tupleL {l : List Da} (h : Φ (.tup l)) : BW X (.type "tuple") [.lst l] Φ := fun Hs H vs e rr Q q => by
  cases rr with
  | cons r t =>
    cases t
    obtain ⟨a, ws, rfl, ha, ra⟩ := r.lst_inv
    exact rCW_of call_tuple_of ⟨a, ws, rfl, .inl ⟨.of (e _ _ ha), fun b hb => q _ _ _ _ (Go.new e hb) h (.tup upd_same (ra.mono (same_upd (e.free hb))))⟩⟩
theorem bw_tupleT {l : List Da} (h : Φ (.tup l)) : BW X (.type "tuple") [.tup l] Φ := fun Hs H vs e rr Q q => by
  cases rr with
  | cons r t =>
    cases t
    obtain ⟨a, ws, rfl, ha, ra⟩ := r.tup_inv
    exact rCW_of call_tuple_of ⟨a, ws, rfl, .inr ⟨.of (e _ _ ha), q _ _ Hs H (Go.refl e) h r⟩⟩
theorem bw_listL {l : List Da} (h : Φ (.lst l)) : BW X (.type "list") [.lst l] Φ := fun Hs H vs e rr Q q => by
  cases rr with
  | cons r t =>
    cases t
    obtain ⟨a, ws, rfl, ha, ra⟩ := r.lst_inv
    exact rCW_of call_list_of ⟨a, ws, rfl, .inl (.of (e _ _ ha)), fun b hb => q _ _ _ _ (Go.new e hb) h (.lst upd_same (ra.mono (same_upd (e.free hb))))⟩
theorem bw_listT {l : List Da} (h : Φ (.lst l)) : BW X (.type "list") [.tup l] Φ := fun Hs H vs e rr Q q => by
  cases rr with
  | cons r t =>
    cases t
    obtain ⟨a, ws, rfl, ha, ra⟩ := r.tup_inv
    exact rCW_of call_list_of ⟨a, ws, rfl, .inr (.of (e _ _ ha)), fun b hb => q _ _ _ _ (Go.new e hb) h (.lst upd_same (ra.mono (same_upd (e.free hb))))⟩
theorem bw_all (S : Sc M X k N sc cs) {bs : List Bool} (h : Φ (.bl (bs.all id))) : BW X (.builtin "all") [.lst (bs.map Da.bl)] Φ := fun Hs H vs e rr Q q => by
  cases rr with
  | cons r t =>
    cases t
    obtain ⟨a, ws, rfl, ha, ra⟩ := r.lst_inv
    have e1 : bs.map Da.bl = (bs.map V.bl).map Da.a := by rw [List.map_map]; rfl
    rw [e1] at ra
    rw [ra.atoms] at ha
    exact rCW_of (cr_all S.calm) ⟨a, bs, rfl, .of (e _ _ ha), q _ _ Hs H (Go.refl e) h (.a _)⟩
theorem bw_any (S : Sc M X k N sc cs) {bs : List Bool} (h : Φ (.bl (bs.any id))) : BW X (.builtin "any") [.lst (bs.map Da.bl)] Φ := fun Hs H vs e rr Q q => by
  cases rr with
  | cons r t =>
    cases t
    obtain ⟨a, ws, rfl, ha, ra⟩ := r.lst_inv
    have e1 : bs.map Da.bl = (bs.map V.bl).map Da.a := by rw [List.map_map]; rfl
    rw [e1] at ra
    rw [ra.atoms] at ha
    exact rCW_of (cr_any S.calm) ⟨a, bs, rfl, .of (e _ _ ha), q _ _ Hs H (Go.refl e) h (.a _)⟩

/-! ### methods of built-in types -/
def rMW (X : Cx) (id : String) : V → List V → Hp → VK → Prop := fun x xs H Q => ∀ pins s σ v us, Inv X pins σ H s → RelV x v → Vals xs us → wpAny (model X.prog X.w) X.A (call (.builtin id) (v :: us)) (EP X pins σ Q) X.xe s
theorem rMW_ok {id : String} : MtR X id (rMW X id) := fun pins s σ H x xs v us Q I rx r h => h pins s σ v us I rx r
theorem rMW_of {id : String} {r : V → List V → Hp → VK → Prop} (h : MtR X id r) {x : V} {xs : List V} {H : Hp} {Q : VK} (q : r x xs H Q) : rMW X id x xs H Q := fun pins s σ v us I rx rr => h pins s σ H x xs v us Q I rx rr q
def MW (X : Cx) (id : String) (x : Da) (ds : List Da) (Φ : Da → Prop) : Prop := ∀ Hs H v vs, Same Hs H → Rp X.K H x v → RpAll X.K Hs ds vs → ∀ Q : VK, (∀ d z Hs' H', Go Hs H Hs' H' → Φ d → Rp X.K Hs' d z → Q z H') → rMW X id v vs H Q
def TyW (X : Cx) (T : String) (x : Da) : Prop := ∀ H v, Rp X.K H x v → tyV X.K T v H
theorem tyw_str {z : Str} : TyW X "str" (.str z) := fun H v r => by cases r.atom; exact rfl
theorem tyw_lst {l : List Da} : TyW X "list" (.lst l) := fun H v r => by
  obtain ⟨a, ws, rfl, ha, ra⟩ := r.lst_inv
  exact .inl ⟨rfl, _, .of ha⟩
theorem de_meth {T id : String} {name : Str} (pa : PlainAttrs T) (slot : Slot T name id) (hty : typeOf (.builtin id) = pure (.type "method_descriptor")) (h : DV X o δ fun x => TyW X T x ∧ DAt X (e :: es) δ fun ds => MW X id x ds Φ)
    (hbase : attributeBase o name X.env (eval o X.env) = eval o X.env := by rfl)
    (hfew : ((backTo pos (starEach (e :: es) X.env)).all (fun x => !x.1) && (backToKw pos (keywordEach [] X.env)).all (fun x => x.1.isSome)
      && decide ((e :: es).length + ([] : List Keyword).length + (if ([] : List Keyword).isEmpty then 0 else 1) < 30)) = true := by rfl)
    (hline : (apos.endLine == pos.line) = true := by rfl) (hs : starEach (e :: es) X.env = (false, eval e X.env) :: starEach es X.env := by rfl) (hplain : (backTo pos (starEach es X.env)).any (·.1) = false := by rfl) :
    DM X m (.Call (.Attribute o name apos) (e :: es) [] pos) δ Φ := DM.of <| .mk fun Bs B Hs H σ ok Q q =>
  WE.of (pe_bm pa slot hty rMW_ok pe_W pa_W hbase hfew hline hs hplain) (h Bs B Hs H σ ok _ fun x v Hs1 H1 g1 ⟨ty, h1⟩ r1 => ⟨ty H1 v r1, h1 Bs B Hs1 H1 σ (ok.mono g1) _ fun ds vs Hs2 H2 g2 p r2 _ =>
    p Hs2 H2 v vs g2.sub (Rp.mono g2.hh r1) r2 Q fun d z Hs' H' g' pd rd => q d z Hs' H' ((g1.trans g2).trans g') pd rd⟩)
theorem de_meth0 {T id : String} {name : Str} (pa : PlainAttrs T) (slot : Slot T name id) (hty : typeOf (.builtin id) = pure (.type "method_descriptor")) (h : DV X o δ fun x => TyW X T x ∧ MW X id x [] Φ)
    (hbase : attributeBase o name X.env (eval o X.env) = eval o X.env := by rfl) (hline : (apos.endLine == pos.line) = true := by rfl) :
    DM X m (.Call (.Attribute o name apos) [] [] pos) δ Φ := DM.of <| .mk fun Bs B Hs H σ ok Q q =>
  WE.of (pe_bm0 pa slot hty rMW_ok pe_W hbase hline) (h Bs B Hs H σ ok _ fun x v Hs1 H1 g1 ⟨ty, h1⟩ r1 => ⟨ty H1 v r1, h1 Hs1 H1 v [] g1.sub r1 .nil Q fun d z Hs' H' g' pd rd => q d z Hs' H' (g1.trans g') pd rd⟩)
theorem mw_atoms {id : String} {r : V → List V → Hp → VK → Prop} (hr : MtR X id r) {x : V} {xs : List V} {z : V} (hq : ∀ (H : Hp) (Q : VK), Q z H → r x xs H Q) (h : Φ (.a z)) : MW X id (.a x) (xs.map Da.a) Φ := fun Hs H v vs e rx rr Q q => by
  rw [rr.atoms]
  cases rx.atom
  exact rMW_of hr (hq H Q (q _ _ Hs H (Go.refl e) h (.a _)))
theorem mw_upper {z : Str} (hl : z.length ≤ 5592405) (h : Φ (.str (Txt.upper z))) : MW X "str.upper" (.str z) [] Φ := mw_atoms (xs := []) mt_upper (fun H Q q => ⟨_, rfl, rfl, hl, q⟩) h
theorem mw_lower {z : Str} (hl : z.length ≤ 5592405) (h : Φ (.str (Txt.lower z))) : MW X "str.lower" (.str z) [] Φ := mw_atoms (xs := []) mt_lower (fun H Q q => ⟨_, rfl, rfl, hl, q⟩) h
theorem mw_sindex {z y : Str} {i : Nat} {rest : List Nat} (ho : Builtin.Str.occurrences z y 0 z.length 1 = i :: rest) (h : Φ (.int i)) : MW X "str.index" (.str z) [.str y] Φ := mw_atoms (xs := [.str y]) mt_sindex (fun H Q q => ⟨_, _, i, rest, rfl, rfl, ho, q⟩) h
theorem mw_scount {z y : Str} (h : Φ (.int (Txt.count z y))) : MW X "str.count" (.str z) [.str y] Φ := mw_atoms (xs := [.str y]) mt_count (fun H Q q => ⟨_, _, rfl, rfl, q⟩) h
theorem mw_joinL {z : Str} {ys : List Str} (hl : (ys.map (·.length)).sum + ys.length * z.length ≤ 16777216) (h : Φ (.str (Txt.join z ys))) : MW X "str.join" (.str z) [.lst (ys.map Da.str)] Φ := fun Hs H v vs e rx rr Q q => by
  cases rx.atom
  cases rr with
  | cons r t =>
    cases t
    obtain ⟨a, ws, rfl, ha, ra⟩ := r.lst_inv
    have e1 : ys.map Da.str = (ys.map V.str).map Da.a := by rw [List.map_map]; rfl
    rw [e1] at ra
    rw [ra.atoms] at ha
    exact rMW_of mt_join ⟨_, a, ys, rfl, rfl, .inl (.of (e _ _ ha)), hl, q _ _ Hs H (Go.refl e) h (.a _)⟩
end
end DL

/-! DL4: targets, loops, comprehensions, statements, defs. -/
namespace DL
open PySem PySem.Spec PyProof.Rows L2
section
variable {M : Md} {X : Cx} {k : Nat} {N : List Str} {sc cs : Scope} {δ δ' : Sg} {m : Bool} {Φ Ψ : Da → Prop} {x y : Str} {pos p2 p3 apos : Pos} {e a b o tg it : Expr} {es : List Expr}
  {st : Stmt} {sts : List Stmt} {nx bk ct : Sg → Prop} {rt : Da → Prop}

/-! ### targets -/
theorem keep_set {nm : List Str} {i : Nat} {x : Str} {σ : L2.St} {v : Option V} (h : N[i]? = some x) (hx : x ∈ nm) : Keep N nm σ (σ.set i v) := by
  refine ⟨by simp, fun j hj => ?_⟩
  have : i ≠ j := fun e => hj x (by rw [← e]; exact h) hx
  rw [List.getElem?_set_ne this]
theorem dg_name (S : Sc M X k N sc cs) {d : Da} {Φ : Sg → Prop} (hl : locB cs x = true) (h : ∃ δ', Ss N δ x (some (.d d)) δ' ∧ Φ δ') : DG X (.Name x pos) [x] d δ Φ := .mk fun Bs B Hs H σ v o r Q q => by
  obtain ⟨δ', h1, h2⟩ := h
  obtain ⟨i, h3, rfl⟩ := h1.at
  exact WG.of (pg_name (i := i) (by rw [S.n]; exact S.nd) (by rw [S.n]; exact h3) (S.fn x hl).1 (S.fn x hl).2) (q _ _ Hs H (o.setD i r) (Go.refl o.sub) (by rw [S.n]; exact keep_set h3 (by simp)) h2)
theorem dgs_nil {Φ : Sg → Prop} (h : Φ δ) : DGs X [] [] [] δ Φ := .mk fun Bs B Hs H σ vs o r Q q => by
  cases r
  exact WGs.of pgs_nil ⟨rfl, q δ σ Hs H o (Go.refl o.sub) (Keep.refl _ _ _) h⟩
theorem dgs_cons {nm ns : List Str} {d : Da} {ds : List Da} {Φ : Sg → Prop} (h : DG X e nm d δ fun δ1 => DGs X es ns ds δ1 Φ) (hs : (assignEach (e :: es) X.env).map (·.2) = assign e X.env :: (assignEach es X.env).map (·.2) := by rfl) : DGs X (e :: es) (nm ++ ns) (d :: ds) δ Φ := .mk fun Bs B Hs H σ vs o r Q q => by
  cases r with
  | cons r t =>
    exact WGs.of (pgs_cons pg_W pgs_W hs) ⟨_, _, rfl, h Bs B Hs H σ _ o r _ fun δ1 σ1 Hs1 H1 o1 s1 k1 p1 => p1 Bs B Hs1 H1 σ1 _ o1 (t.mono s1.ss) Q fun δ2 σ2 Hs2 H2 o2 s2 k2 p2 => q δ2 σ2 Hs2 H2 o2 (s1.trans s2) (k1.trans k2) p2⟩
theorem dg_tup (S : Sc M X k N sc cs) {nm : List Str} {ds : List Da} {j : Nat} {Φ : Sg → Prop} (h : DGs X es nm ds δ Φ) (hn : (assignEach es X.env).length = ds.length := by rfl) (hst : (assignEach es X.env).findIdx? (·.1) = none := by rfl) : DG X (.Tuple es j pos) nm (.tup ds) δ Φ := .mk fun Bs B Hs H σ v o r Q q => by
  obtain ⟨a, vs, rfl, ha, ra⟩ := r.tup_inv
  exact WG.of (pg_tup S.calm pgs_W hn hst) ⟨a, vs, rfl, .of (o.sub _ _ ha), by rw [ra.len], h Bs B Hs H σ vs o ra Q q⟩

/-! ### what loops walk -/
theorem di_lst {Φ : List Da → Prop} (h : DE X it δ fun d => ∃ ds, d = .lst ds ∧ Φ ds) : DI X tg it δ Φ := .mk fun Bs B Hs H σ o R q =>
  WI.of (pi_list pe_W) (h Bs B Hs H σ o _ fun d v Hs1 H1 g ⟨ds, e1, p⟩ r => by
    subst e1
    obtain ⟨a, vs, rfl, ha, ra⟩ := r.lst_inv
    refine ⟨a, rfl, ⟨vs, .of (g.sub _ _ ha)⟩, q ds _ (fun H => SqL X.K H a vs) (YAt vs) Hs1 H1 g p (by rw [ra.len]; exact walk_list) (fun Hs2 H2 s1 s2 => .of (s2 _ _ (s1 _ _ ha))) fun i d Hs2 H2 v H3 s1 s2 hi hy => ?_⟩
    obtain ⟨rfl, hv⟩ := hy
    obtain ⟨v', hv', rv⟩ := ra.get hi
    rw [hv] at hv'
    cases hv'
    exact ⟨Hs2, Go.refl s2, rv.mono s1⟩)
theorem di_tup {Φ : List Da → Prop} (h : DE X it δ fun d => ∃ ds, d = .tup ds ∧ Φ ds) : DI X tg it δ Φ := .mk fun Bs B Hs H σ o R q =>
  WI.of (pi_tup pe_W) (h Bs B Hs H σ o _ fun d v Hs1 H1 g ⟨ds, e1, p⟩ r => by
    subst e1
    obtain ⟨a, vs, rfl, ha, ra⟩ := r.tup_inv
    refine ⟨a, rfl, ⟨vs, .of (g.sub _ _ ha)⟩, q ds _ (fun H => SqT X.K H a vs) (YAt vs) Hs1 H1 g p (by rw [ra.len]; exact walk_tup) (fun Hs2 H2 s1 s2 => .of (s2 _ _ (s1 _ _ ha))) fun i d Hs2 H2 v H3 s1 s2 hi hy => ?_⟩
    obtain ⟨rfl, hv⟩ := hy
    obtain ⟨v', hv', rv⟩ := ra.get hi
    rw [hv] at hv'
    cases hv'
    exact ⟨Hs2, Go.refl s2, rv.mono s1⟩)
def chars (z : Str) : List Da := z.cps.toList.map fun c => .str ⟨#[c]⟩
theorem di_str {Φ : List Da → Prop} (h : DE X it δ fun d => ∃ z, d = .str z ∧ Φ (chars z)) : DI X tg it δ Φ := .mk fun Bs B Hs H σ o R q =>
  WI.of (pi_str pe_W) (h Bs B Hs H σ o _ fun d v Hs1 H1 g ⟨z, e1, p⟩ r => by
    subst e1
    cases r.atom
    refine ⟨z, rfl, q (chars z) _ _ _ Hs1 H1 g p (by
      have e2 : (chars z).length = z.cps.size := by unfold chars; simp
      rw [e2]
      exact walk_str) (fun _ _ _ _ => True.intro) fun i d Hs2 H2 v H3 s1 s2 hi hy => ?_⟩
    obtain ⟨rfl, c, hc, rfl⟩ := hy
    unfold chars at hi
    rw [List.getElem?_map, Array.getElem?_toList, hc] at hi
    cases hi
    exact ⟨Hs2, Go.refl s2, .a _⟩)
def rangeD (lo : Int) (n : Nat) : List Da := (List.range n).map fun (i : Nat) => Da.int (lo + (i : Int))
theorem rangeD_get {lo : Int} {n i : Nat} {d : Da} (h : (rangeD lo n)[i]? = some d) : i < n ∧ d = .int (lo + (i : Int)) := by
  unfold rangeD at h
  rw [List.getElem?_map] at h
  by_cases hi : i < n
  · rw [List.getElem?_range hi] at h
    cases h
    exact ⟨hi, rfl⟩
  · rw [List.getElem?_eq_none (by simpa using hi)] at h
    cases h
theorem rangeD_len {lo : Int} {n : Nat} : (rangeD lo n).length = n := by simp [rangeD]
theorem di_range1 (S : Sc M X k N sc cs) {Φ : List Da → Prop} (hm : M.mg "range" = none) (hg : glB sc "range" = true) (h : DE X e δ fun d => ∃ n : Int, d = .int n ∧ -(2 ^ 62) ≤ n ∧ n < 2 ^ 62 ∧ Φ (rangeD 0 n.toNat))
    (hs : starEach [e] X.env = (false, eval e X.env) :: starEach [] X.env := by rfl) : DI X tg (.Call (.Name "range" p2) [e] [] pos) δ Φ := .mk fun Bs B Hs H σ o R q =>
  WI.of (pi_range1 (by show X.env.scope.names.lookup _ = _; rw [S.hsc]; exact (glB_ok hg).1) (by rw [S.hmg]; exact hm) (pa_cons pe_W pa_nil hs) (by rw [hs]; rfl)) (h Bs B Hs H σ o _ fun d v Hs1 H1 g ⟨n, e1, b1, b2, p⟩ r => by
    subst e1
    cases r.atom
    refine ⟨n, rfl, b1, b2, q _ _ (fun _ => True) _ Hs1 H1 g p (by rw [rangeD_len]; exact walk_range) (fun _ _ _ _ => True.intro) fun i d Hs2 H2 v H3 s1 s2 hi hy => ?_⟩
    obtain ⟨rfl, rfl⟩ := hy
    obtain ⟨_, rfl⟩ := rangeD_get hi
    exact ⟨Hs2, Go.refl s2, .a _⟩)
theorem di_range2 (S : Sc M X k N sc cs) {Φ : List Da → Prop} (hm : M.mg "range" = none) (hg : glB sc "range" = true) (h : DE X a δ fun d => DE X b δ fun d' => ∃ i j : Int, d = .int i ∧ d' = .int j ∧ (-(2 ^ 62) ≤ i ∧ i < 2 ^ 62 ∧ -(2 ^ 62) ≤ j ∧ j < 2 ^ 62) ∧ Φ (rangeD i (j - i).toNat))
    (hs : starEach [a, b] X.env = (false, eval a X.env) :: starEach [b] X.env := by rfl) (hs2 : starEach [b] X.env = (false, eval b X.env) :: starEach [] X.env := by rfl) : DI X tg (.Call (.Name "range" p2) [a, b] [] pos) δ Φ := .mk fun Bs B Hs H σ o R q =>
  WI.of (pi_range2 (by show X.env.scope.names.lookup _ = _; rw [S.hsc]; exact (glB_ok hg).1) (by rw [S.hmg]; exact hm) (pa_cons pe_W (pa_cons pe_W pa_nil hs2) hs) (by rw [hs, hs2]; rfl) (by rw [hs2]; rfl)) (h Bs B Hs H σ o _ fun d v Hs1 H1 g1 h1 r1 => h1 Bs B Hs1 H1 σ (o.mono g1) _ fun d' v' Hs2 H2 g2 ⟨i, j, e1, e2, bd, p⟩ r2 => by
    subst e1 e2
    cases r1.atom
    cases r2.atom
    refine ⟨i, j, rfl, bd, q _ _ (fun _ => True) _ Hs2 H2 (g1.trans g2) p (by rw [rangeD_len]; exact walk_range) (fun _ _ _ _ => True.intro) fun i d Hs2 H2 v H3 s1 s2 hi hy => ?_⟩
    obtain ⟨rfl, rfl⟩ := hy
    obtain ⟨_, rfl⟩ := rangeD_get hi
    exact ⟨Hs2, Go.refl s2, .a _⟩)
/-- a new pair of a thing and a thing -/
theorem pair_new {K : PySem.W.Frag} {Hs H : Hp} {x y : Da} {v w : V} {T : Addr} (s : Same Hs H) (rx : Rp K Hs x v) (ry : Rp K Hs y w) (hT : H T = none) : ∃ Hs3, Go Hs H Hs3 (upd H T (.tup [v, w])) ∧ Rp K Hs3 (.tup [x, y]) (.ref T) :=
  ⟨_, Go.new s hT, .tup upd_same (.cons (Rp.mono (same_upd (s.free hT)) rx) (.cons (Rp.mono (same_upd (s.free hT)) ry) .nil))⟩
def enumD (l : List Da) : List Da := l.zipIdx.map fun p => .tup [.int (p.2 : Nat), p.1]
theorem enumD_len {l : List Da} : (enumD l).length = l.length := by simp [enumD]
theorem enumD_get {l : List Da} {i : Nat} {d : Da} (h : (enumD l)[i]? = some d) : ∃ z, l[i]? = some z ∧ d = .tup [.int (i : Nat), z] := by
  unfold enumD at h
  rw [List.getElem?_map, List.getElem?_zipIdx] at h
  cases e : l[i]? with
  | none => rw [e] at h; cases h
  | some z => rw [e] at h; cases h; exact ⟨z, rfl, by simp⟩
theorem di_enum (S : Sc M X k N sc cs) {elts : List Expr} {kk : Nat} {tpos : Pos} {Φ : List Da → Prop} (hm : M.mg "enumerate" = none) (hg : glB sc "enumerate" = true) (h : DE X e δ fun d => ∃ l, d = .lst l ∧ Φ (enumD l))
    (hs : starEach [e] X.env = (false, eval e X.env) :: starEach [] X.env := by rfl) : DI X (.Tuple elts kk tpos) (.Call (.Name "enumerate" p2) [e] [] pos) δ Φ := .mk fun Bs B Hs H σ o R q =>
  WI.of (pi_enum (by show X.env.scope.names.lookup _ = _; rw [S.hsc]; exact (glB_ok hg).1) (by rw [S.hmg]; exact hm) (pa_cons pe_W pa_nil hs) (by rw [hs]; rfl)) (h Bs B Hs H σ o _ fun d v Hs1 H1 g ⟨l, e1, p⟩ r => by
    subst e1
    obtain ⟨a, vs, rfl, ha, ra⟩ := r.lst_inv
    refine ⟨a, vs, rfl, .of (g.sub _ _ ha), q _ _ (fun H => SqL X.K H a vs) _ Hs1 H1 g p (by rw [enumD_len, ra.len]; exact walk_enum) (fun Hs2 H2 s1 s2 => .of (s2 _ _ (s1 _ _ ha))) fun i d Hs2 H2 v H3 s1 s2 hi hy => ?_⟩
    obtain ⟨T, x, y, rfl, hT, rfl, hx, hy⟩ := hy
    dsimp only at hx hy
    obtain ⟨z, hz, rfl⟩ := enumD_get hi
    obtain ⟨v', hv', rv⟩ := ra.get hz
    rw [hy] at hv'
    cases hv'
    cases hx
    exact pair_new s2 (.a _) (rv.mono s1) hT)
def zipD (l r : List Da) : List Da := (l.zip r).map fun p => .tup [p.1, p.2]
theorem zipD_len {l r : List Da} : (zipD l r).length = min l.length r.length := by simp [zipD]
theorem zipD_get {l r : List Da} {i : Nat} {d : Da} (h : (zipD l r)[i]? = some d) : ∃ z w, l[i]? = some z ∧ r[i]? = some w ∧ d = .tup [z, w] := by
  unfold zipD at h
  rw [List.getElem?_map] at h
  cases e : (l.zip r)[i]? with
  | none => rw [e] at h; cases h
  | some z =>
    rw [e] at h
    cases h
    rw [List.getElem?_zip_eq_some] at e
    exact ⟨_, _, e.1, e.2, rfl⟩
theorem di_zip (S : Sc M X k N sc cs) {elts : List Expr} {kk : Nat} {tpos : Pos} {Φ : List Da → Prop} (hm : M.mg "zip" = none) (hg : glB sc "zip" = true)
    (h : DE X a δ fun d => DE X b δ fun d' => ∃ l r, ((d = .lst l ∧ d' = .lst r) ∨ (d = .tup l ∧ d' = .tup r)) ∧ Φ (zipD l r))
    (hs : starEach [a, b] X.env = (false, eval a X.env) :: starEach [b] X.env := by rfl) (hs2 : starEach [b] X.env = (false, eval b X.env) :: starEach [] X.env := by rfl) (hpl : (backTo pos (starEach [b] X.env)).any (·.1) = false := by rfl) : DI X (.Tuple elts kk tpos) (.Call (.Name "zip" p2) [a, b] [] pos) δ Φ := .mk fun Bs B Hs H σ o R q =>
  WI.of (RZ.pi_zipA (by show X.env.scope.names.lookup _ = _; rw [S.hsc]; exact (glB_ok hg).1) (by rw [S.hmg]; exact hm) (pa_cons pe_W (pa_cons pe_W pa_nil hs2) hs) hs hpl) (h Bs B Hs H σ o _ fun d v Hs1 H1 g1 h1 r1 => h1 Bs B Hs1 H1 σ (o.mono g1) _ fun d' v' Hs2 H2 g2 ⟨l, r, e, p⟩ r2 => by
    rcases e with ⟨rfl, rfl⟩ | ⟨rfl, rfl⟩
    · obtain ⟨a, vs, rfl, ha, ra⟩ := r1.lst_inv
      obtain ⟨b, ws, rfl, hb, rb⟩ := r2.lst_inv
      have ha' := g2.ss _ _ ha
      refine ⟨a, b, vs, ws, rfl, .inl ⟨.of (g2.sub _ _ ha'), .of (g2.sub _ _ hb), q _ _ (fun H => SqL X.K H a vs ∧ SqL X.K H b ws) _ Hs2 H2 (g1.trans g2) p (walk_zip (by rw [zipD_len, ra.len, rb.len])) (fun Hs2 H2 s1 s2 => ⟨.of (s2 _ _ (s1 _ _ ha')), .of (s2 _ _ (s1 _ _ hb))⟩) fun i d Hs2 H2 v H3 s1 s2 hi hy => ?_⟩⟩
      obtain ⟨T, x, y, rfl, hT, rfl, hx, hy⟩ := hy
      dsimp only at hx hy
      obtain ⟨z, w, hz, hw, rfl⟩ := zipD_get hi
      obtain ⟨v', hv', rv⟩ := (ra.mono g2.ss).get hz
      obtain ⟨w', hw', rw'⟩ := rb.get hw
      rw [hx] at hv'
      rw [hy] at hw'
      cases hv'
      cases hw'
      exact pair_new s2 (rv.mono s1) (rw'.mono s1) hT
    · obtain ⟨a, vs, rfl, ha, ra⟩ := r1.tup_inv
      obtain ⟨b, ws, rfl, hb, rb⟩ := r2.tup_inv
      have ha' := g2.ss _ _ ha
      have wk : Walk (RZ.ItzT X.K a b) (zipD l r).length (fun H => SqT X.K H a vs ∧ SqT X.K H b ws) (YPair (fun i => vs[i]?) (fun i => ws[i]?)) := by
        have hn : (zipD l r).length = min vs.length ws.length := by rw [zipD_len, ra.len, rb.len]
        rw [hn]
        refine ⟨fun i _ hi q => ?_, fun _ q => ⟨vs, ws, q.1, q.2, by omega⟩, fun i H v H' _ q y => ?_⟩
        · have h1 : i < vs.length := by omega
          have h2 : i < ws.length := by omega
          exact ⟨vs, ws, vs[i], ws[i], q.1, q.2, by simp [h1], by simp [h2]⟩
        · obtain ⟨T, x, z, h1, h2, h3, h4, h5⟩ := y
          exact ⟨T, x, z, h1, h2, h3, h4 vs q.1, h5 ws q.2⟩
      refine ⟨a, b, vs, ws, rfl, .inr ⟨.of (g2.sub _ _ ha'), .of (g2.sub _ _ hb), q _ _ (fun H => SqT X.K H a vs ∧ SqT X.K H b ws) _ Hs2 H2 (g1.trans g2) p wk (fun Hs2 H2 s1 s2 => ⟨.of (s2 _ _ (s1 _ _ ha')), .of (s2 _ _ (s1 _ _ hb))⟩) fun i d Hs2 H2 v H3 s1 s2 hi hy => ?_⟩⟩
      obtain ⟨T, x, y, rfl, hT, rfl, hx, hy⟩ := hy
      dsimp only at hx hy
      obtain ⟨z, w, hz, hw, rfl⟩ := zipD_get hi
      obtain ⟨v', hv', rv⟩ := (ra.mono g2.ss).get hz
      obtain ⟨w', hw', rw'⟩ := rb.get hw
      rw [hx] at hv'
      rw [hy] at hw'
      cases hv'
      cases hw'
      exact pair_new s2 (rv.mono s1) (rw'.mono s1) hT)

/-! ### comprehensions -/
theorem DTs.nil {Φ : Bool → Prop} (h : Φ true) : DTs X [] δ Φ := .mk fun Bs B Hs H σ o Q q => WTs.of pts_nil (q true Hs H (Go.refl o.sub) h)
theorem DTs.one {Φ : Bool → Prop} (h : DT X e δ Φ) : DTs X [e] δ Φ := .mk fun Bs B Hs H σ o Q q => WTs.of (pts_one pt_W) (h Bs B Hs H σ o Q q)
/-- the names of a target -/
def tgN : Nat → Expr → List Str
  | 0, _ => []
  | _ + 1, .Name x _ => [x]
  | n + 1, .Tuple es _ _ => es.flatMap (tgN n)
  | _, _ => []
/-- slots of names forgotten -/
inductive Wp : List Str → List Str → Sg → Sg → Prop
  | nil {N : List Str} {δ : Sg} : Wp N [] δ δ
  | cons {N : List Str} {x : Str} {os : List Str} {δ δ1 δ2 : Sg} : Wp N os δ δ1 → Ss N δ1 x none δ2 → Wp N (x :: os) δ δ2
def ixN0 (N : List Str) (x : Str) : Nat := N.idxOf x
def ownOf (N : List Str) (os : List Str) : List (Str × Nat) := os.map fun x => (x, N.idxOf x)
theorem idxOf_at : ∀ {N : List Str} {i : Nat} {x : Str}, N.Nodup → N[i]? = some x → N.idxOf x = i
  | [], _, _, _, h => by simp at h
  | y :: N, 0, x, _, h => by simp at h; subst h; simp
  | y :: N, i + 1, x, nd, h => by
    have h' : N[i]? = some x := by simpa using h
    have ne : y ≠ x := fun e => (List.nodup_cons.mp nd).1 (by rw [e]; exact List.mem_of_getElem? h')
    rw [List.idxOf_cons, beq_false_of_ne ne, idxOf_at (List.nodup_cons.mp nd).2 h']
    rfl
theorem Ok.wipe {K : PySem.W.Frag} {Bs B Hs H : Hp} {σ : L2.St} (nd : N.Nodup) : ∀ {os : List Str} {δ δ' : Sg}, Wp N os δ δ' → Ok K Bs B Hs H σ δ → Ok K Bs B Hs H (wipe σ ((ownOf N os).map (·.2))) δ'
  | _, _, _, .nil, o => o
  | _, _, _, .cons w s, o => by
    obtain ⟨i, h1, rfl⟩ := s.at
    have o1 := Ok.wipe nd w o
    show Ok K Bs B Hs H ((L2.wipe σ _).set (N.idxOf _) none) _
    rw [idxOf_at nd h1]
    exact o1.wipe1 i none
theorem wipe_get {σ : L2.St} {i : Nat} : ∀ {vs : List Nat}, i ∈ vs → i < σ.length → (L2.wipe σ vs)[i]? = some none
  | [], h, _ => by simp at h
  | v :: vs, h, hl => by
    unfold L2.wipe
    by_cases hv : v = i
    · subst hv
      rw [List.getElem?_set_self (by rw [wipe_length]; exact hl)]
    · rw [List.getElem?_set_ne hv]
      exact wipe_get ((List.mem_cons.mp h).elim (fun z => absurd z.symm hv) id) hl
theorem wipe_keep {σ σ' : L2.St} {nm os : List Str} (nd : N.Nodup) (hl : σ.length = N.length) (hk : Keep N nm (L2.wipe σ ((ownOf N os).map (·.2))) σ') (hn : ∀ x ∈ nm, x ∈ os) :
    L2.wipe σ' ((ownOf N os).map (·.2)) = L2.wipe σ ((ownOf N os).map (·.2)) := by
  have hl' : σ'.length = σ.length := by rw [hk.1, wipe_length]
  refine List.ext_getElem? fun i => ?_
  by_cases hi : i < σ.length
  · by_cases hm : i ∈ (ownOf N os).map (·.2)
    · rw [wipe_get hm (by omega), wipe_get hm hi]
    · rw [wipe_out hm, hk.2 i fun x e z => hm ?_]
      refine List.mem_map.mpr ⟨(x, N.idxOf x), List.mem_map.mpr ⟨x, hn x z, rfl⟩, idxOf_at nd e⟩
  · rw [List.getElem?_eq_none (by rw [wipe_length]; omega), List.getElem?_eq_none (by rw [wipe_length]; omega)]
def blkB (N : List Str) (sc scope : Scope) (os : List Str) : Bool := blkC N sc scope (ownOf N os)
/-- the block of a comprehension -/
theorem Sc.blk (S : Sc M X k N sc cs) {scope : Scope} {s : Shared} {H : Hp} {C : Addr} {cl : List (Str × Addr)} {fp : List Addr} (kind : scope.kind = .function) :
    Sc M (X.blk s H scope (compEnvC scope cl C X.env) fp) k N (relS scope sc) scope :=
  ⟨S.hP, S.hw, S.hK, S.hmg, S.hb, S.n, S.nd, S.calm, S.room, kind, PassesOwn.never, by show relS scope X.env.scope = _; rw [S.hsc], fun x h => by
    show L2.Loc (relS scope X.env.scope) x ∧ ((scope.names.lookup x == some .cell) = true ∨ (relS scope X.env.scope).names.lookup x = some .local)
    rcases locB_ok h with e | e
    · have e' : (relS scope X.env.scope).names.lookup x = some .local := lookup_relS_keep (by decide) e
      exact ⟨.inl e', .inr e'⟩
    · have e' : (relS scope X.env.scope).names.lookup x = some .cell := lookup_relS_keep (by decide) e
      exact ⟨.inr e', .inl (by rw [e]; rfl)⟩⟩
def WGb (X : Cx) (scope : Scope) (tg : Expr) : TG := fun v σ H Q => ∀ s H0 C cl fp, WG (X.blk s H0 scope (compEnvC scope cl C X.env) fp) tg v σ H Q
def WTb (X : Cx) (scope : Scope) (ifs : List Expr) : TT := fun σ H Q => ∀ s H0 C cl fp, WTs (X.blk s H0 scope (compEnvC scope cl C X.env) fp) ifs σ H Q
def WEb (X : Cx) (scope : Scope) (e : Expr) : TE := fun σ H Q => ∀ s H0 C cl fp, WE (X.blk s H0 scope (compEnvC scope cl C X.env) fp) e σ H Q
theorem pgb_W {scope : Scope} (s : Shared) (H0 : Hp) (C : Addr) (cl : List (Str × Addr)) (fp : List Addr) : PG (X.blk s H0 scope (compEnvC scope cl C X.env) fp) tg (WGb X scope tg) := ⟨fun pins s' σ H v u Q I r h => h s H0 C cl fp pins s' u I r⟩
theorem ptb_W {scope : Scope} (s : Shared) (H0 : Hp) (C : Addr) (cl : List (Str × Addr)) (fp : List Addr) : PTs (X.blk s H0 scope (compEnvC scope cl C X.env) fp) es (WTb X scope es) := ⟨fun pins s' σ H Q I h => h s H0 C cl fp pins s' I⟩
theorem peb_W {scope : Scope} (s : Shared) (H0 : Hp) (C : Addr) (cl : List (Str × Addr)) (fp : List Addr) : PE (X.blk s H0 scope (compEnvC scope cl C X.env) fp) e (WEb X scope e) := ⟨fun pins s' σ H Q I h => h s H0 C cl fp pins s' I⟩
/-- what is shown of a comprehension: P by the turn and the things made so far -/
def LcD (M : Md) (X : Cx) (k : Nat) (N : List Str) (sc : Scope) (scope : Scope) (tg elt : Expr) (ifs : List Expr) (os : List Str) (δ : Sg) (ds : List Da) (Φ : Da → Prop) : Prop :=
  ∃ δw, Wp N os δ δw ∧ ds.length ≤ 1000000 ∧ ∃ P : Nat → List Da → Prop, P 0 [] ∧
    (∀ X', Sc M X' k N (relS scope sc) scope → ∀ i d acc, ds[i]? = some d → P i acc → DG X' tg os d δw fun δ2 => ∀ X', Sc M X' k N (relS scope sc) scope → DTs X' ifs δ2 fun c => (c = true → ∀ X', Sc M X' k N (relS scope sc) scope → DE X' elt δ2 fun y => P (i + 1) (acc ++ [y])) ∧ (c = false → P (i + 1) acc)) ∧
    ∀ acc, acc.length ≤ ds.length → P ds.length acc → Φ (.lst acc)
theorem lc_run (S : Sc M X k N sc cs) {scope : Scope} {ifs : List Expr} {os : List Str} (kind : scope.kind = .function) (h : DI X tg it δ fun ds => LcD M X k N sc scope tg e ifs os δ ds Φ) {Bs B Hs H : Hp} {σ : L2.St} (o : Ok X.K Bs B Hs H σ δ) {Q : VK}
    (q : ∀ d v Hs' H', Go Hs H Hs' H' → Φ d → Rp X.K Hs' d v → Q v H') : tLc (WI X tg it) (WGb X scope tg) (WTb X scope ifs) (WEb X scope e) ((ownOf N os).map (·.2)) σ H Q := by
  have nd := S.nd
  have hlen : ∀ {σ' : L2.St} {H' : Hp}, True := trivial
  refine h Bs B Hs H σ o _ fun ds J G Y Hs1 H1 g1 ⟨δw, hw, hz, P, p0, step, fin⟩ wk hG hY D hD => ?_
  have oD : ∀ (i : Nat) (s : SD) (q : Addr), δ[i]? = some (some s) → s.own = true → σ[i]? = some (some (.ref q)) → q ≠ D := fun i s q e w h z => (o.mono g1).ownAt e w h (by rw [z]; exact hD)
  have hD0 : H D = none := g1.hh.free hD
  have hB : B D = none := o.go.hh.free hD0
  refine lc_it (Qd := fun H => Q (.ref D) H) wk (fun i H2 => ∃ Hs2 acc vs, Go Hs H Hs2 H2 ∧ Same Hs1 Hs2 ∧ Ok X.K Bs B Hs2 H2 σ δ ∧ Hs2 D = none ∧ H2 D = some (.lst vs) ∧ RpAll X.K Hs2 acc vs ∧ acc.length ≤ i ∧ i ≤ ds.length ∧ P i acc) ?_ ?_ ?_ ?_
  · have hs := g1.sub.free hD
    exact ⟨Hs1, [], [], g1.trans (Go.own g1.sub hD), Same.refl _, (o.mono g1).mono (Go.own g1.sub hD), hs, upd_same, .nil, Nat.le_refl _, Nat.zero_le _, p0⟩
  · rintro i H2 hi ⟨Hs2, acc, vs, g2, s2, o2, _⟩
    exact hG Hs2 H2 s2 o2.sub
  · rintro i x H2 H3 hi ⟨Hs2, acc, vs, g2, s2, o2, hDs, hDv, ra, hl, _, pi⟩ hy s H0 C cl fp
    intro pins s' u I r
    obtain ⟨d, hd⟩ : ∃ d, ds[i]? = some d := ⟨ds[i], by simp [hi]⟩
    obtain ⟨Hs3, g3, rd⟩ := hY i d Hs2 H2 x H3 s2 o2.sub hd hy
    have o3 := o2.mono g3
    have hsl : σ.length = N.length := by
      have := I.len
      rw [wipe_length] at this
      rw [this]
      exact congrArg List.length S.n
    have nDs : ∀ {Hs' H' : Hp}, Go Hs2 H2 Hs' H' → Hs' D = none := fun g => g.no D (by rw [hDv]; exact fun z => nomatch z) hDs
    refine step (X.blk s H0 scope (compEnvC scope cl C X.env) fp) (S.blk kind) i d acc hd pi Bs B Hs3 H3 _ x (o3.wipe nd hw) rd _ (fun δ2 σ2 Hs4 H4 o4 g4 kp ht => ?_) pins s' u I r
    refine ⟨wipe_keep nd hsl (by have kp' : Keep X.N os _ σ2 := kp; rw [S.n] at kp'; exact kp') fun _ z => z, fun s H0 C cl fp pins s' I => ?_⟩
    refine ht (X.blk s H0 scope (compEnvC scope cl C X.env) fp) (S.blk kind) Bs B Hs4 H4 σ2 o4 _ (fun c Hs5 H5 g5 p5 => ?_) pins s' I
    have g35 := (g3.trans g4).trans g5
    cases c with
    | true =>
      refine iteT fun s H0 C cl fp pins s' I => ?_
      refine p5.1 rfl (X.blk s H0 scope (compEnvC scope cl C X.env) fp) (S.blk kind) Bs B Hs5 H5 σ2 (o4.mono g5) _ (fun y v Hs6 H6 g6 p6 r6 => ?_) pins s' I
      have g36 := g35.trans g6
      refine ⟨vs, g36.hh _ _ hDv, ?_, Hs6, acc ++ [y], vs ++ [v], (g2.trans g36).mut hD0 (nDs g36), s2.trans g36.ss, (o2.mono g36).other (nDs g36) hB oD, nDs g36, upd_same, (ra.mono g36.ss).app (.cons r6 .nil), by simp; exact hl, by omega, p6⟩
      have e1 := ra.len
      have e2 : sizeLine = 16777216 := sizeLine_eq
      omega
    | false =>
      exact iteF ⟨Hs5, acc, vs, g2.trans g35, s2.trans g35.ss, o2.mono g35, nDs g35, g35.hh _ _ hDv, ra.mono g35.ss, by omega, by omega, p5.2 rfl⟩
  · rintro H2 ⟨Hs2, acc, vs, g2, s2, o2, hDs, hDv, ra, hl, _, pi⟩
    exact q _ _ _ _ (g2.freeze hD0 hDs hDv) (fin acc hl pi) (.lst upd_same (ra.mono (same_upd hDs)))
theorem de_lc (S : Sc M X k N sc cs) {scope : Scope} {ifs : List Expr} {os : List Str} (h : DI X tg it δ fun ds => LcD M X k N sc scope tg e ifs os δ ds Φ) (hk : blkB N sc scope os = true)
    (hs : ∀ x, foldedSetIterable it X.env x = pure x := by intro _; rfl) : DM X m (.ListComp e [⟨tg, it, ifs, 0⟩] scope pos) δ Φ := DM.of <| .mk fun Bs B Hs H σ o Q q => by
  have ok : BlkOk X.N X.env.scope scope (ownOf N os) := by rw [S.n, S.hsc]; exact blkOk_by hk
  exact WE.of (pe_lc S.calm (by rw [S.n]; exact S.nd) pi_W ok pgb_W ptb_W peb_W hs) (lc_run S ok.kind h o q)

/-! ### statements -/
theorem db_nil (h : nx δ) : DB X [] δ nx rt bk ct := .mk fun Bs B Hs H σ o D f => WB.of pss_nil (f.nx δ σ Hs H o (Same.refl _) h)
theorem db_cons (h : DS X st δ (fun δ' => DB X sts δ' nx rt bk ct) rt bk ct) : DB X (st :: sts) δ nx rt bk ct := .mk fun Bs B Hs H σ o D f =>
  WB.of (pss_cons ps_W pb_W) (h Bs B Hs H σ o { D with nx := WB X sts D } ⟨fun δ' σ' Hs' H' o' s h' => h' Bs B Hs' H' σ' o' D (f.frm s), f.rt, f.bk, f.ct⟩)
theorem ds_pass (h : nx δ) : DS X (.Pass pos) δ nx rt bk ct := .mk fun Bs B Hs H σ o D f => WS.of ps_pass (f.nx δ σ Hs H o (Same.refl _) h)
theorem ds_break (h : bk δ) : DS X (.Break pos) δ nx rt bk ct := .mk fun Bs B Hs H σ o D f => WS.of ps_break (f.bk δ σ Hs H o (Same.refl _) h)
theorem ds_cont (h : ct δ) : DS X (.Continue pos) δ nx rt bk ct := .mk fun Bs B Hs H σ o D f => WS.of ps_continue (f.ct δ σ Hs H o (Same.refl _) h)
theorem ds_expr (h : DE X e δ fun _ => nx δ) (hs : swapsWith e none pos.line X.env = pure false := by rfl) : DS X (.Expr e pos) δ nx rt bk ct := .mk fun Bs B Hs H σ o D f =>
  WS.of (ps_expr pe_W hs) (h Bs B Hs H σ o _ fun d v Hs' H' g p r => f.nx δ σ Hs' H' (o.mono g) g.ss p)
theorem ds_ret (h : DE X e δ rt) : DS X (.Return (some e) pos) δ nx rt bk ct := .mk fun Bs B Hs H σ o D f =>
  WS.of (ps_ret pe_W) (h Bs B Hs H σ o _ fun d v Hs' H' g p r => f.rt d v Hs' H' (o.go.trans g) g.ss p r)
theorem ds_retN (h : rt .non) : DS X (.Return none pos) δ nx rt bk ct := .mk fun Bs B Hs H σ o D f => WS.of ps_retN (f.rt .non .non Hs H o.go (Same.refl _) h (.a _))
theorem ds_if {c : Expr} {s1 s2 : List Stmt} (h : DT X c δ fun z => (z = true → DB X s1 δ nx rt bk ct) ∧ (z = false → DB X s2 δ nx rt bk ct)) : DS X (.If c s1 s2 pos) δ nx rt bk ct := .mk fun Bs B Hs H σ o D f =>
  WS.of (ps_if pt_W pb_W pb_W) (h Bs B Hs H σ o _ fun z Hs' H' g p => by
    cases z with
    | true => exact iteT (p.1 rfl Bs B Hs' H' σ (o.mono g) D (f.frm g.ss))
    | false => exact iteF (p.2 rfl Bs B Hs' H' σ (o.mono g) D (f.frm g.ss)))
theorem ds_set (S : Sc M X k N sc cs) (h : DE X e δ fun d => ∃ δ', Ss N δ x (some (.d d)) δ' ∧ nx δ') (hl : locB cs x = true) (hs : swapsWith e (some (.Name x p2)) pos.line X.env = pure false := by rfl) :
    DS X (.Assign [.Name x p2] e pos) δ nx rt bk ct := .mk fun Bs B Hs H σ o D f => by
  refine fun pins s I => wpAny_Assign_Name (thn (h Bs B Hs H σ o (fun v H' => ∃ d Hs', Go Hs H Hs' H' ∧ (∃ δ', Ss N δ x (some (.d d)) δ' ∧ nx δ') ∧ Rp X.K Hs' d v) (fun d v Hs' H' g p r => ⟨d, Hs', g, p, r⟩) pins s I) fun u s1 ⟨v, H1, I1, r1, d, Hs', g, ⟨δ', h1, h2⟩, r⟩ => ?_) hs
  obtain ⟨i, h3, rfl⟩ := h1.at
  exact store_ok I1 (by rw [S.n]; exact S.nd) (by rw [S.n]; exact h3) (S.fn x hl).1 r1 (fun s2 I2 => ⟨_, H1, I2, f.nx _ _ Hs' H1 ((o.mono g).setD i r) g.ss h2⟩) (S.fn x hl).2
/-- a list comprehension kept by a name that is no cell -/
theorem ds_setLc (S : Sc M X k N sc cs) {scope : Scope} {ifs : List Expr} {os : List Str} {py lp : Pos} (h : DI X tg it δ fun ds => LcD M X k N sc scope tg e ifs os δ ds fun d => ∃ δ', Ss N δ y (some (.d d)) δ' ∧ nx δ') (hk : blkB N sc scope os = true)
    (hy : (sc.names.lookup y == some .local && (py.line == lp.line) && !(scope.names.any fun (n, k) => n == y && (k == .local || k == .cell))) = true) (hN : N.contains y = true) (hs : ∀ x, foldedSetIterable it X.env x = pure x := by intro _; rfl) :
    DS X (.Assign [.Name y py] (.ListComp e [⟨tg, it, ifs, 0⟩] scope lp) pos) δ nx rt bk ct := .mk fun Bs B Hs H σ o D f => by
  have ok : BlkOk X.N X.env.scope scope (ownOf N os) := by rw [S.n, S.hsc]; exact blkOk_by hk
  simp only [Bool.and_eq_true, beq_iff_eq, Bool.not_eq_true'] at hy
  obtain ⟨⟨h1, h2⟩, h3⟩ := hy
  intro pins s I
  obtain ⟨i, hi⟩ : ∃ i : Nat, N[i]? = some y := List.mem_iff_getElem?.mp (by simpa using hN)
  have hk : X.env.scope.kind = .function := by rw [S.hsc]; exact S.kind
  refine WS.of (ps_setLc (i := i) S.calm (by rw [S.n]; exact S.nd) (by rw [S.n]; exact hi) (by rw [S.hsc]; exact h1) (sw_true hk (by rw [S.hsc]; exact h1) (by simpa using h2) h3) pi_W ok pgb_W ptb_W peb_W hs) ?_ pins s I
  refine lc_run S ok.kind h o fun d v Hs' H' g ⟨δ', hd, p⟩ r => ?_
  obtain ⟨j, h5, rfl⟩ := hd.at
  obtain rfl : i = j := nodup_ix S.nd hi h5
  exact f.nx _ _ Hs' H' ((o.mono g).setD i r) g.ss p
theorem ds_freeze {s0 : SD} {d : Da} (hg : Gt N δ x s0) (hf : s0.frozen = some d) (hs : ∃ δ', Ss N δ x (some (.d d)) δ' ∧ DS X st δ' nx rt bk ct) (nd : N.Nodup) : DS X st δ nx rt bk ct := .mk fun Bs B Hs H σ o D f => by
  obtain ⟨i, h1, h2⟩ := hg.at
  obtain ⟨δ', h3, h4⟩ := hs
  obtain ⟨j, h5, rfl⟩ := h3.at
  obtain rfl : i = j := nodup_ix nd h1 h5
  obtain ⟨Hs', s1, o1⟩ := o.freeze h2 hf
  exact h4 Bs B Hs' H σ o1 D (f.frm s1)
theorem db_freeze {s0 : SD} {d : Da} (hg : Gt N δ x s0) (hf : s0.frozen = some d) (hs : ∃ δ', Ss N δ x (some (.d d)) δ' ∧ DB X sts δ' nx rt bk ct) (nd : N.Nodup) : DB X sts δ nx rt bk ct := .mk fun Bs B Hs H σ o D f => by
  obtain ⟨i, h1, h2⟩ := hg.at
  obtain ⟨δ', h3, h4⟩ := hs
  obtain ⟨j, h5, rfl⟩ := h3.at
  obtain rfl : i = j := nodup_ix nd h1 h5
  obtain ⟨Hs', s1, o1⟩ := o.freeze h2 hf
  exact h4 Bs B Hs' H σ o1 D (f.frm s1)
/-- an own list made -/
theorem ds_ownL (S : Sc M X k N sc cs) (h : ∃ δ', Ss N δ x (some (.ol [])) δ' ∧ nx δ') (hl : locB cs x = true) : DS X (.Assign [.Name x p2] (.List [] p3) pos) δ nx rt bk ct := .mk fun Bs B Hs H σ o D f => by
  obtain ⟨δ', h1, h2⟩ := h
  obtain ⟨i, h3, rfl⟩ := h1.at
  refine WS.of (ps_set (i := i) (by rw [S.n]; exact S.nd) (by rw [S.n]; exact h3) (S.fn x hl).1 (pe_lst pa_nil) rfl (S.fn x hl).2) ⟨Nat.zero_le _, fun p hp => ?_⟩
  exact f.nx _ _ Hs _ (o.setO i (s0 := .ol []) hp ⟨p, [], rfl, o.sub.free hp, upd_same, .nil⟩) (Same.refl _) h2
theorem ds_ownK (S : Sc M X k N sc cs) (h : ∃ δ', Ss N δ x (some (.ok [])) δ' ∧ nx δ') (hl : locB cs x = true) : DS X (.Assign [.Name x p2] (.Dict [] [] p3) pos) δ nx rt bk ct := .mk fun Bs B Hs H σ o D f => by
  obtain ⟨δ', h1, h2⟩ := h
  obtain ⟨i, h3, rfl⟩ := h1.at
  refine WS.of (ps_set (i := i) (by rw [S.n]; exact S.nd) (by rw [S.n]; exact h3) (S.fn x hl).1 pe_dnewK rfl (S.fn x hl).2) fun p hp => ?_
  exact f.nx _ _ Hs _ (o.setO i (s0 := .ok []) hp ⟨p, rfl, o.sub.free hp, upd_same⟩) (Same.refl _) h2
theorem ds_ownT (S : Sc M X k N sc cs) (h : ∃ δ', Ss N δ x (some (.ot [])) δ' ∧ nx δ') (hl : locB cs x = true) : DS X (.Assign [.Name x p2] (.Dict [] [] p3) pos) δ nx rt bk ct := .mk fun Bs B Hs H σ o D f => by
  obtain ⟨δ', h1, h2⟩ := h
  obtain ⟨i, h3, rfl⟩ := h1.at
  refine WS.of (ps_set (i := i) (by rw [S.n]; exact S.nd) (by rw [S.n]; exact h3) (S.fn x hl).1 pe_dnewT rfl (S.fn x hl).2) fun p hp => ?_
  exact f.nx _ _ Hs _ (o.setO i (s0 := .ot []) hp ⟨p, rfl, o.sub.free hp, upd_same⟩) (Same.refl _) h2
/-- x.append(e), x an own list -/
theorem ds_append (S : Sc M X k N sc cs) {l : List Da} (hg : Gt N δ x (.ol l)) (hv : visB sc x = true) (hz : l.length < 1000000) (h : DE X e δ fun d => ∃ δ', Ss N δ x (some (.ol (l ++ [d]))) δ' ∧ nx δ')
    (hfew : ((backTo p3 (starEach [e] X.env)).all (fun x => !x.1) && (backToKw p3 (keywordEach [] X.env)).all (fun x => x.1.isSome)
      && decide ([e].length + ([] : List Keyword).length + (if ([] : List Keyword).isEmpty then 0 else 1) < 30)) = true := by rfl)
    (hline : (apos.endLine == p3.line) = true := by rfl) (hst : starEach [e] X.env = (false, eval e X.env) :: starEach [] X.env := by rfl) :
    DS X (.Expr (.Call (.Attribute (.Name x p2) "append" apos) [e] [] p3) pos) δ nx rt bk ct := .mk fun Bs B Hs H σ o D f => by
  obtain ⟨i, h1, h2⟩ := hg.at
  obtain ⟨v, h3, p, vs, rfl, e1, e2, r⟩ := o.slot i _ h2
  obtain ⟨v1, v2, v3⟩ := visB_ok hv
  refine WS.of (ps_expr (pe_bm PySem.F.plainAttrs_list PySem.F.slot_list_append PySem.F.type_list_append mt_append (pe_var (i := i) (by rw [S.n]; exact h1) (by rw [S.hsc]; exact v1) v2 v3) (pa_cons pe_W pa_nil hst) rfl hfew hline hst rfl) rfl)
    ⟨_, h3, .inl ⟨rfl, _, .of e2⟩, h Bs B Hs H σ o _ fun d w Hs' H' g ⟨δ', hd, pd⟩ rd => ?_⟩
  obtain ⟨j, h5, rfl⟩ := hd.at
  obtain rfl : i = j := nodup_ix S.nd h1 h5
  have o1 := o.mono g
  have e3 := g.no p (by rw [e2]; exact fun z => nomatch z) e1
  refine ⟨p, vs, w, rfl, rfl, g.hh _ _ e2, ?_, f.nx _ _ Hs' _ (o1.chg (s1 := .ol (l ++ [d])) h2 rfl rfl h3 e3 ⟨p, vs ++ [w], rfl, e3, upd_same, (r.mono g.ss).app (.cons rd .nil)⟩) g.ss pd⟩
  have := r.len
  have : sizeLine = 16777216 := sizeLine_eq
  omega
/-- x.pop() -/
theorem ds_pop (S : Sc M X k N sc cs) {l : List Da} (hg : Gt N δ x (.ol l)) (hv : visB sc x = true) (hz : l ≠ []) (h : ∃ δ', Ss N δ x (some (.ol l.dropLast)) δ' ∧ nx δ')
    (hline : (apos.endLine == p3.line) = true := by rfl) : DS X (.Expr (.Call (.Attribute (.Name x p2) "pop" apos) [] [] p3) pos) δ nx rt bk ct := .mk fun Bs B Hs H σ o D f => by
  obtain ⟨i, h1, h2⟩ := hg.at
  obtain ⟨v, h3, p, vs, rfl, e1, e2, r⟩ := o.slot i _ h2
  obtain ⟨v1, v2, v3⟩ := visB_ok hv
  obtain ⟨δ', hd, pd⟩ := h
  obtain ⟨j, h5, rfl⟩ := hd.at
  obtain rfl : i = j := nodup_ix S.nd h1 h5
  have hl := r.len
  have hp : vs.length - 1 < vs.length := by
    cases l with
    | nil => exact absurd rfl hz
    | cons => simp at hl; omega
  refine WS.of (ps_expr (pe_bm0 PySem.F.plainAttrs_list PySem.F.slot_list_pop PySem.F.type_list_pop mt_pop (pe_var (i := i) (by rw [S.n]; exact h1) (by rw [S.hsc]; exact v1) v2 v3) rfl hline) rfl)
    ⟨_, h3, .inl ⟨rfl, _, .of e2⟩, p, vs, vs[vs.length - 1], rfl, rfl, e2, by simp [hp], ?_⟩
  exact f.nx _ _ Hs _ (o.chg (s1 := .ol l.dropLast) h2 rfl rfl h3 e1 ⟨p, vs.dropLast, rfl, e1, upd_same, r.dropLast⟩) (Same.refl _) pd
/-- targets = x.pop() -/
theorem ds_popTo (S : Sc M X k N sc cs) {l : List Da} {d : Da} (hg : Gt N δ x (.ol (l ++ [d]))) (hv : visB sc x = true) (h : ∃ δ', Ss N δ x (some (.ol l)) δ' ∧ ∃ nm, DG X tg nm d δ' nx)
    (hline : (apos.endLine == p3.line) = true := by rfl) (hs : swapsWithSole [tg] (.Call (.Attribute (.Name x p2) "pop" apos) [] [] p3) pos.line X.env = pure false := by rfl)
    (hw : swappedStores [tg] (.Call (.Attribute (.Name x p2) "pop" apos) [] [] p3) X.env = pure none := by rfl) (h1 : (assignEach [tg] X.env).map (·.2) = [assign tg X.env] := by rfl) :
    DS X (.Assign [tg] (.Call (.Attribute (.Name x p2) "pop" apos) [] [] p3) pos) δ nx rt bk ct := .mk fun Bs B Hs H σ o D f => by
  obtain ⟨i, hi, h2⟩ := hg.at
  obtain ⟨v, h3, p, vs, rfl, e1, e2, r⟩ := o.slot i _ h2
  obtain ⟨v1, v2, v3⟩ := visB_ok hv
  obtain ⟨δ', hd, nm, pd⟩ := h
  obtain ⟨j, h5, rfl⟩ := hd.at
  obtain rfl : i = j := nodup_ix S.nd hi h5
  have hl := r.len
  obtain ⟨w, hw1, rw1⟩ := r.get (i := l.length) (d := d) (by simp)
  refine WS.of (ps_asg (pe_bm0 PySem.F.plainAttrs_list PySem.F.slot_list_pop PySem.F.type_list_pop mt_pop (pe_var (i := i) (by rw [S.n]; exact hi) (by rw [S.hsc]; exact v1) v2 v3) rfl hline) pg_W hs hw h1)
    ⟨_, h3, .inl ⟨rfl, _, .of e2⟩, p, vs, w, rfl, rfl, e2, ?_, ?_⟩
  · rw [← hl]
    simpa using hw1
  have o1 := o.chg (s1 := .ol l) h2 rfl rfl h3 e1 ⟨p, vs.dropLast, rfl, e1, upd_same, by simpa using r.dropLast⟩
  exact pd Bs B Hs _ σ w o1 rw1 _ fun δ2 σ2 Hs2 H2 o2 g2 _ p2 => f.nx _ _ Hs2 H2 o2 g2.ss p2
/-- targets = e -/
theorem ds_asg (h : DE X e δ fun d => ∃ nm, DG X tg nm d δ nx) (hs : swapsWithSole [tg] e pos.line X.env = pure false := by rfl) (hw : swappedStores [tg] e X.env = pure none := by rfl)
    (h1 : (assignEach [tg] X.env).map (·.2) = [assign tg X.env] := by rfl) : DS X (.Assign [tg] e pos) δ nx rt bk ct := .mk fun Bs B Hs H σ o D f =>
  WS.of (ps_asg pe_W pg_W hs hw h1) (h Bs B Hs H σ o _ fun d v Hs' H' g ⟨nm, p⟩ r => p Bs B Hs' H' σ v (o.mono g) r _ fun δ2 σ2 Hs2 H2 o2 g2 _ p2 => f.nx _ _ Hs2 H2 o2 (g.ss.trans g2.ss) p2)
/-- a, b = e1, e2, plain local names -/
theorem ds_par (S : Sc M X k N sc cs) {px py pt : Pos} {kt k2 pt2} (h : DE X a δ fun d => DE X b δ fun d' => ∃ δ1 δ2, Ss N δ x (some (.d d)) δ1 ∧ Ss N δ1 y (some (.d d')) δ2 ∧ nx δ2) (hxy : x ≠ y)
    (hx : (sc.names.lookup x == some .local) = true) (hy : (sc.names.lookup y == some .local) = true)
    (hw : ∀ env : Env, env.scope = sc → swappedStores [.Tuple [.Name x px, .Name y py] kt pt] (.Tuple [a, b] k2 pt2) env = pure (some [x, y]))
    (hN : N.contains x = true) (hN2 : N.contains y = true)
    (hs : swapsWithSole [.Tuple [.Name x px, .Name y py] kt pt] (.Tuple [a, b] k2 pt2) pos.line X.env = pure false := by rfl)
    (h1 : starEach [a, b] X.env = (false, eval a X.env) :: starEach [b] X.env := by rfl) (h2 : starEach [b] X.env = (false, eval b X.env) :: starEach [] X.env := by rfl) :
    DS X (.Assign [.Tuple [.Name x px, .Name y py] kt pt] (.Tuple [a, b] k2 pt2) pos) δ nx rt bk ct := .mk fun Bs B Hs H σ o D f => by
  obtain ⟨i, hi⟩ : ∃ i : Nat, N[i]? = some x := List.mem_iff_getElem?.mp (by simpa using hN)
  obtain ⟨j, hj⟩ : ∃ i : Nat, N[i]? = some y := List.mem_iff_getElem?.mp (by simpa using hN2)
  have hij : i ≠ j := fun e => by
    rw [e, hj] at hi
    exact hxy (Option.some.inj hi).symm
  refine WS.of (ps_par (i := i) (j := j) S.calm (by rw [S.n]; exact S.nd) (by rw [S.n]; exact hi) (by rw [S.n]; exact hj) hij (by rw [S.hsc]; simpa using hx) (by rw [S.hsc]; simpa using hy) (pa_cons pe_W (pa_cons pe_W pa_nil h2) h1) (hw _ S.hsc) hs) ?_
  refine h Bs B Hs H σ o _ fun d v Hs1 H1 g1 p1 r1 => p1 Bs B Hs1 H1 σ (o.mono g1) _ fun d' w Hs2 H2 g2 ⟨δ1, δ2, q1, q2, p2⟩ r2 => ?_
  obtain ⟨i', e1, rfl⟩ := q1.at
  obtain rfl : i = i' := nodup_ix S.nd hi e1
  obtain ⟨j', e2, rfl⟩ := q2.at
  obtain rfl : j = j' := nodup_ix S.nd hj e2
  exact ⟨v, w, rfl, f.nx _ _ Hs2 H2 ((((o.mono g1).mono g2).setD i (Rp.mono g2.ss r1)).setD j r2) (g1.ss.trans g2.ss) p2⟩
/-- x[k] = e, x an own dict -/
theorem ds_dputK (S : Sc M X k N sc cs) {kvs : List (Key × V)} (hg : Gt N δ x (.ok kvs)) (hv : visB sc x = true) (hz : kvs.length < 1000000) (h : DE X e δ fun d => DE X b δ fun y => ∃ v q, d = .a v ∧ y = .a (kV q) ∧ ∃ δ', Ss N δ x (some (.ok (putK kvs q v))) δ' ∧ nx δ')
    (hs : swapsWith e (some (.Subscript (.Name x p2) b p3)) pos.line X.env = pure false := by rfl) : DS X (.Assign [.Subscript (.Name x p2) b p3] e pos) δ nx rt bk ct := .mk fun Bs B Hs H σ o D f => by
  have hu : X.A.units + 1 < cLine := by have := S.room.units; omega
  obtain ⟨i, h1, h2⟩ := hg.at
  obtain ⟨v, h3, p, rfl, e1, e2⟩ := o.slot i _ h2
  obtain ⟨v1, v2, v3⟩ := visB_ok hv
  refine WS.of (ps_dput hu (pe_var (i := i) (by rw [S.n]; exact h1) (by rw [S.hsc]; exact v1) v2 v3) pe_W pe_W hs) (h Bs B Hs H σ o _ fun d w Hs1 H1 g1 q1 r1 => ⟨_, h3, q1 Bs B Hs1 H1 σ (o.mono g1) _ fun y z Hs2 H2 g2 ⟨v, q, ed, ey, δ', hd, pd⟩ r2 => ?_⟩)
  subst ed ey
  cases r1.atom
  cases r2.atom
  obtain ⟨j, h5, rfl⟩ := hd.at
  obtain rfl : i = j := nodup_ix S.nd h1 h5
  have g := g1.trans g2
  have e3 := g.no p (by rw [e2]; exact fun z => nomatch z) e1
  refine ⟨p, _, rfl, DPut.k (g.hh _ _ e2) (by have : sizeLine = 16777216 := sizeLine_eq; omega), f.nx _ _ Hs2 _ ((o.mono g).chg (s1 := .ok (putK kvs q _)) h2 rfl rfl h3 e3 ⟨p, rfl, e3, upd_same⟩) g.ss pd⟩
theorem ds_dputT (S : Sc M X k N sc cs) {kvs : List (List Key × V)} (hg : Gt N δ x (.ot kvs)) (hv : visB sc x = true) (hz : kvs.length < 1000000) (h : DE X e δ fun d => DE X b δ fun y => ∃ v q, d = .a v ∧ y = .tup ((q.map kV).map Da.a) ∧ ∃ δ', Ss N δ x (some (.ot (putK kvs q v))) δ' ∧ nx δ')
    (hs : swapsWith e (some (.Subscript (.Name x p2) b p3)) pos.line X.env = pure false := by rfl) : DS X (.Assign [.Subscript (.Name x p2) b p3] e pos) δ nx rt bk ct := .mk fun Bs B Hs H σ o D f => by
  have hu : X.A.units + 1 < cLine := by have := S.room.units; omega
  obtain ⟨i, h1, h2⟩ := hg.at
  obtain ⟨v, h3, p, rfl, e1, e2⟩ := o.slot i _ h2
  obtain ⟨v1, v2, v3⟩ := visB_ok hv
  refine WS.of (ps_dput hu (pe_var (i := i) (by rw [S.n]; exact h1) (by rw [S.hsc]; exact v1) v2 v3) pe_W pe_W hs) (h Bs B Hs H σ o _ fun d w Hs1 H1 g1 q1 r1 => ⟨_, h3, q1 Bs B Hs1 H1 σ (o.mono g1) _ fun y z Hs2 H2 g2 ⟨v, q, ed, ey, δ', hd, pd⟩ r2 => ?_⟩)
  subst ed ey
  cases r1.atom
  obtain ⟨t, ts, rfl, ht, rt⟩ := r2.tup_inv
  rw [rt.atoms] at ht
  obtain ⟨j, h5, rfl⟩ := hd.at
  obtain rfl : i = j := nodup_ix S.nd h1 h5
  have g := g1.trans g2
  have e3 := g.no p (by rw [e2]; exact fun z => nomatch z) e1
  refine ⟨p, _, rfl, DPut.t (g.hh _ _ e2) (g2.sub _ _ ht) (by have : sizeLine = 16777216 := sizeLine_eq; omega), f.nx _ _ Hs2 _ ((o.mono g).chg (s1 := .ot (putK kvs q _)) h2 rfl rfl h3 e3 ⟨p, rfl, e3, upd_same⟩) g.ss pd⟩

/-! ### loops -/
theorem ds_for (S : Sc M X k N sc cs) {body : List Stmt} (h : DI X tg it δ fun ds => ∃ I : Nat → Sg → Prop, I 0 δ ∧
      (∀ i d δ', ds[i]? = some d → I i δ' → ∃ nm, DG X tg nm d δ' fun δ2 => DB X body δ2 (I (i + 1)) rt nx (I (i + 1))) ∧ ∀ δ', I ds.length δ' → nx δ')
    (hs : ∀ x, foldedSetIterable it X.env x = pure x := by intro _; rfl) : DS X (.For tg it body [] pos) δ nx rt bk ct := .mk fun Bs B Hs H σ o D f =>
  WS.of (ps_for S.po S.calm pi_W pg_W pb_W hs) (h Bs B Hs H σ o _ fun ds J G Y Hs1 H1 g1 ⟨I, i0, step, fin⟩ wk hG hY => by
    refine for_it wk (fun i σ2 H2 => ∃ Hs2 δ2, Same Hs1 Hs2 ∧ Ok X.K Bs B Hs2 H2 σ2 δ2 ∧ i ≤ ds.length ∧ I i δ2) ?_ ?_ ?_ ?_
    · exact ⟨Hs1, δ, Same.refl _, o.mono g1, Nat.zero_le _, i0⟩
    · rintro i σ2 H2 hi ⟨Hs2, δ2, s2, o2, _⟩
      exact hG Hs2 H2 s2 o2.sub
    · rintro i x σ2 H2 H3 hi ⟨Hs2, δ2, s2, o2, _, pi⟩ hy
      obtain ⟨d, hd⟩ : ∃ d, ds[i]? = some d := ⟨ds[i], by simp [hi]⟩
      obtain ⟨Hs3, g3, rd⟩ := hY i d Hs2 H2 x H3 s2 o2.sub hd hy
      obtain ⟨nm, stp⟩ := step i d δ2 hd pi
      refine stp Bs B Hs3 H3 σ2 x (o2.mono g3) rd _ fun δ4 σ4 Hs4 H4 o4 g4 _ p4 => ?_
      have s4 := (s2.trans g3.ss).trans g4.ss
      refine p4 Bs B Hs4 H4 σ4 o4 _ ⟨fun δ5 σ5 Hs5 H5 o5 s5 p5 => ⟨Hs5, δ5, s4.trans s5, o5, by omega, p5⟩, fun d v Hs' H' g s h r => f.rt d v Hs' H' g (g1.ss.trans (s4.trans s)) h r, fun δ5 σ5 Hs5 H5 o5 s5 p5 => f.nx δ5 σ5 Hs5 H5 o5 (g1.ss.trans (s4.trans s5)) p5, fun δ5 σ5 Hs5 H5 o5 s5 p5 => ⟨Hs5, δ5, s4.trans s5, o5, by omega, p5⟩⟩
    · rintro σ2 H2 ⟨Hs2, δ2, s2, o2, _, pi⟩
      exact f.nx δ2 σ2 Hs2 H2 o2 (g1.ss.trans s2) (fin δ2 pi))
theorem ds_while (S : Sc M X k N sc cs) {c : Expr} {body : List Stmt} (I : Nat → Sg → Prop) (h0 : ∃ n, I n δ)
    (step : ∀ n δ', I n δ' → DT X c δ' fun z => (z = true → DB X body δ' (fun δ2 => ∃ n', n' < n ∧ I n' δ2) rt nx (fun δ2 => ∃ n', n' < n ∧ I n' δ2)) ∧ (z = false → nx δ')) : DS X (.While c body [] pos) δ nx rt bk ct := .mk fun Bs B Hs H σ o D f =>
  WS.of (ps_while S.po pt_W pb_W) (by
    obtain ⟨n0, i0⟩ := h0
    refine ⟨fun n σ2 H2 => ∃ Hs2 δ2, Same Hs Hs2 ∧ Ok X.K Bs B Hs2 H2 σ2 δ2 ∧ I n δ2, ⟨n0, Hs, δ, Same.refl _, o, i0⟩, ?_⟩
    rintro n σ2 H2 ⟨Hs2, δ2, s2, o2, pi⟩
    refine step n δ2 pi Bs B Hs2 H2 σ2 o2 _ fun z Hs3 H3 g3 pz => ?_
    cases z with
    | false => exact iteF (f.nx δ2 σ2 Hs3 H3 (o2.mono g3) (s2.trans g3.ss) (pz.2 rfl))
    | true =>
      refine iteT ⟨fun σ4 H4 => ∃ n', n' < n ∧ ∃ Hs4 δ4, Same Hs Hs4 ∧ Ok X.K Bs B Hs4 H4 σ4 δ4 ∧ I n' δ4, fun σ4 H4 h => h, ?_⟩
      have s3 := s2.trans g3.ss
      exact pz.1 rfl Bs B Hs3 H3 σ2 (o2.mono g3) _ ⟨fun δ5 σ5 Hs5 H5 o5 s5 ⟨n', hn, p5⟩ => ⟨n', hn, Hs5, δ5, s3.trans s5, o5, p5⟩, fun d v Hs' H' g s h r => f.rt d v Hs' H' g (s3.trans s) h r, fun δ5 σ5 Hs5 H5 o5 s5 p5 => f.nx δ5 σ5 Hs5 H5 o5 (s3.trans s5) p5, fun δ5 σ5 Hs5 H5 o5 s5 ⟨n', hn, p5⟩ => ⟨n', hn, Hs5, δ5, s3.trans s5, o5, p5⟩⟩)
end
end DL

/-! DL5: promises over data, calls of defs, bodies of defs. -/
namespace DL
open PySem PySem.Spec PyProof.Rows L2

/-- a promise over data: args, what is asked of them, what is handed back -/
def SpD (K : PySem.W.Frag) {α : Type} (ms : List Bool) (args : α → List Da) (pre : α → Prop) (post : α → Da → Prop) : Sp := fun vs H Q _ =>
  ∃ (a : α) (Hs : Hp), Same Hs H ∧ RpL K Hs H ms (args a) vs ∧ pre a ∧ ∀ d v Hs' H', Go Hs H Hs' H' → post a d → Rp K Hs' d v → Q v H'
structure Cal {α : Type} (M : Md) (k : Nat) (x : Str) (ms : List Bool) (args : α → List Da) (pre : α → Prop) (post : α → Da → Prop) : Prop where
  ex : ∃ f fd ps, FnOk M.P M.w M.K M.mg M.base CX0 k f fd ps (SpD M.K ms args pre post) ∧ M.mg x = some (.ref f) ∧ PySem.W.keepIn M.K (.ref f) = true ∧ Binds M.K fd ps []
theorem Cal.mono {α : Type} {M : Md} {k j : Nat} {x : Str} {ms : List Bool} {args : α → List Da} {pre : α → Prop} {post : α → Da → Prop} (c : Cal M k x ms args pre post) (h : k ≤ j) : Cal M j x ms args pre post := by
  obtain ⟨f, fd, ps, F, h1, h2, h3⟩ := c.ex
  exact ⟨f, fd, ps, F.mono h, h1, h2, h3⟩
def startS (n : Nat) (ms : List Bool) (ds : List Da) : Sg := List.zipWith (fun m d => some (if m = true then SD.d d else SD.b d)) ms ds ++ List.replicate (n - ms.length) none
section
variable {M : Md} {X : Cx} {k : Nat} {N : List Str} {sc cs : Scope} {δ δ' : Sg} {m : Bool} {Φ Ψ : Da → Prop} {x y : Str} {pos p2 p3 apos : Pos} {e a b o tg it : Expr} {es : List Expr}
theorem RpL.len2 {K : PySem.W.Frag} {Hs H : Hp} : ∀ {ms : List Bool} {ds : List Da} {vs : List V}, RpL K Hs H ms ds vs → ds.length = ms.length
  | _, _, _, .nil => rfl
  | _, _, _, .cons _ t => congrArg (· + 1) t.len2
theorem RpL.get {K : PySem.W.Frag} {Hs H : Hp} : ∀ {ms : List Bool} {ds : List Da} {vs : List V} {i : Nat} {m : Bool} {d : Da}, RpL K Hs H ms ds vs → ms[i]? = some m → ds[i]? = some d → ∃ v, vs[i]? = some v ∧ RpM m K Hs H d v
  | _, _, _, _, _, _, .nil, e, _ => by simp at e
  | _, _, _, 0, _, _, .cons r _, e, e2 => by simp at e e2; subst e e2; exact ⟨_, rfl, r⟩
  | _, _, _, i + 1, m, d, .cons _ t, e, e2 => by
    obtain ⟨v, h1, h2⟩ := RpL.get (i := i) (m := m) (d := d) t (by simpa using e) (by simpa using e2)
    exact ⟨v, by simpa using h1, h2⟩
theorem ok_start {K : PySem.W.Frag} {Hs H : Hp} {ms : List Bool} {ds : List Da} {vs : List V} (e : Same Hs H) (r : RpL K Hs H ms ds vs) (hn : ms.length ≤ N.length) : Ok K Hs H Hs H (L2.start N vs) (startS N.length ms ds) := by
  have hv := r.lens
  have hd := r.len2
  have key : ∀ {i : Nat} {s : SD}, (startS N.length ms ds)[i]? = some (some s) → ∃ m d, ms[i]? = some m ∧ ds[i]? = some d ∧ s = (if m = true then SD.d d else SD.b d) := fun {i s} h => by
    unfold startS at h
    by_cases hi : i < ms.length
    · rw [List.getElem?_append_left (by simp [hd]; exact hi), List.getElem?_zipWith] at h
      rw [List.getElem?_eq_getElem hi, List.getElem?_eq_getElem (show i < ds.length by omega)] at h
      refine ⟨_, _, List.getElem?_eq_getElem hi, List.getElem?_eq_getElem (show i < ds.length by omega), ?_⟩
      simpa using h.symm
    · rw [List.getElem?_append_right (by simp [hd]; omega), List.getElem?_replicate] at h
      split at h <;> cases h
  have own : ∀ {i : Nat} {s : SD}, (startS N.length ms ds)[i]? = some (some s) → s.own = false := fun {i s} h => by
    obtain ⟨m, d, _, _, rfl⟩ := key h
    cases m <;> rfl
  refine ⟨Go.refl e, fun i s h => ?_, ?_, fun i s p h w _ => ?_, fun i j s t p h _ w _ _ _ => ?_⟩
  · obtain ⟨m, d, h1, h2, rfl⟩ := key h
    obtain ⟨v, h3, h4⟩ := r.get h1 h2
    refine ⟨v, ?_, ?_⟩
    · unfold L2.start
      have hi : i < vs.length := (List.getElem?_eq_some_iff.mp h3).1
      rw [List.getElem?_append_left (by simpa using hi), List.getElem?_map, h3]
      rfl
    · cases m with
      | true => exact h4
      | false => exact h4
  · unfold L2.start startS
    simp [hd]
    omega
  · rw [own h] at w; cases w
  · rw [own h] at w; cases w
theorem sc_of {P : Program} {w : World} {K : PySem.W.Frag} {mg : Str → Option Value} {base : Heap} {qual : Str} {scope : Scope} {f : Addr} {cd : Value} {A : Around} {outer : List Env} {s : Shared} {H : Hp} {E : XK} {ps : List Str}
    (S : FnScope N ps scope) (hr : Room k (A.deeper (envOfC qual scope s.heap.objs.size f cd))) : Sc ⟨P, w, K, mg, base⟩ (cxOf CX0 P w K mg base N qual scope f cd A outer s H E).nox k N scope scope :=
  ⟨rfl, rfl, rfl, rfl, rfl, rfl, S.nd, rfl, hr, S.kind, PassesOwn.never, rfl, fun x h => ⟨locB_ok h, .inl rfl⟩⟩
/-- THE RULE for a def over data -/
theorem fn_ok {α : Type} {qual : Str} {st : Stmt} {f : Addr} {fd : FuncData} {ps : List Str} {ms : List Bool} {args : α → List Da} {pre : α → Prop} {post : α → Da → Prop} (F : Fun M.K x qual st f fd) (S : FnScope N ps (defScope st)) (hl : ms.length = ps.length)
    (hbody : ∀ X, Sc M X k N (defScope st) (defScope st) → ∀ a, pre a → DB X (defBody st) (startS N.length ms (args a)) (fun _ => post a .non) (post a) (fun _ => False) (fun _ => False)) :
    FnOk M.P M.w M.K M.mg M.base CX0 (k + 1) f fd ps (SpD M.K ms args pre post) := by
  refine F.ok S (fun vs H Q E h => ?_) (fun cdv A outer s H vs Q E hr h => ?_)
  · obtain ⟨a, Hs, _, r, _⟩ := h
    rw [r.lens, hl]
  · obtain ⟨a, Hs, e, r, hp, q⟩ := h
    have hN : ms.length ≤ N.length := by
      have := congrArg List.length S.pre
      rw [List.length_take] at this
      omega
    refine ⟨_, pb_W, hbody _ (sc_of S hr) a hp Hs H Hs H _ (ok_start e r hN) _ ⟨fun δ σ Hs' H' o _ h => q .non .non Hs' H' o.go h (.a _), fun d v Hs' H' g _ h r => q d v Hs' H' g h r, fun _ _ _ _ _ _ h => h.elim, fun _ _ _ _ _ _ h => h.elim⟩⟩
theorem cal_mk {α : Type} {f : Addr} {fd : FuncData} {ps : List Str} {ms : List Bool} {args : α → List Da} {pre : α → Prop} {post : α → Da → Prop} (F : FnOk M.P M.w M.K M.mg M.base CX0 k f fd ps (SpD M.K ms args pre post)) (h1 : M.mg x = some (.ref f))
    (h2 : PySem.W.keepIn M.K (.ref f) = true) (h3 : Binds M.K fd ps []) : Cal M k x ms args pre post := ⟨f, fd, ps, F, h1, h2, h3⟩
/-- a call of a def -/
theorem de_call {α : Type} {ms : List Bool} {args : α → List Da} {pre : α → Prop} {post : α → Da → Prop} (S : Sc M X k N sc cs) (c : Cal M k x ms args pre post) (hg : glB sc x = true) (h : DA X ms (e :: es) δ fun ds => ∃ a, ds = args a ∧ pre a ∧ ∀ d, post a d → Φ d)
    (he : starEach (e :: es) X.env = (false, eval e X.env) :: starEach es X.env := by rfl) (hpl : (backTo pos (starEach es X.env)).any (·.1) = false := by rfl) : DM X m (.Call (.Name x p2) (e :: es) [] pos) δ Φ := DM.of <| .mk fun Bs B Hs H σ o Q q => by
  obtain ⟨f, fd, ps, F, h1, h2, h3⟩ := c.ex
  obtain ⟨g1, g2, g3⟩ := glB_ok hg
  have F' : FnOk X.prog X.w X.K X.mg X.base CX0 k f fd ps (SpD X.K ms args pre post) := by rw [S.hP, S.hw, S.hK, S.hmg, S.hb]; exact F
  refine WE.of (pe_call (dvs := []) (ds := []) (E := E0) F' S.room (by show X.env.scope.names.lookup x = _; rw [S.hsc]; exact g1) (by rw [S.hmg]; exact h1) (by rw [S.hK]; exact h2) (by rw [S.hK]; exact h3) .nil pass0 pa_W g2 he hpl) ?_
  refine h Bs B Hs H σ o _ fun ds vs Hs1 H1 gg ⟨a, ea, pa, k⟩ r => ?_
  subst ea
  rw [List.append_nil]
  exact ⟨a, Hs1, gg.sub, r, pa, fun d v Hs' H' g p rd => q d v Hs' H' (gg.trans g) (k d p) rd⟩
end

/-! ### constants of the module -/
def GlS (M : Md) (x s : Str) : Prop := ∃ t, M.mg x = some (.str s t)
def GlI (M : Md) (x : Str) (i : Int) : Prop := ∃ t, M.mg x = some (.int i t)
section
variable {M : Md} {X : Cx} {k : Nat} {N : List Str} {sc cs : Scope} {δ δ' : Sg} {m : Bool} {Φ Ψ : Da → Prop} {x y : Str} {pos p2 p3 apos : Pos} {e a b o tg it : Expr} {es : List Expr}
theorem de_globS (S : Sc M X k N sc cs) {s : Str} (hm : GlS M x s) (hg : glB sc x = true) (h : Φ (.str s)) : DM X m (.Name x pos) δ Φ := by
  obtain ⟨t, e⟩ := hm
  exact de_glob (v := .str s) S hg e ⟨t, rfl⟩ h
theorem de_globI (S : Sc M X k N sc cs) {i : Int} (hm : GlI M x i) (hg : glB sc x = true) (h : Φ (.int i)) : DM X m (.Name x pos) δ Φ := by
  obtain ⟨t, e⟩ := hm
  exact de_glob (v := .int i) S hg e ⟨t, rfl⟩ h
theorem dp_none {Φ : Option Int → Prop} (h : Φ none) : DP X none δ Φ := h
theorem dp_some {Φ : Option Int → Prop} (h : DE X e δ fun d => ∃ i, d = .int i ∧ Φ (some i)) : DP X (some e) δ Φ := h
theorem spT {A B : Prop} (h : A) : (true = true → A) ∧ (true = false → B) := ⟨fun _ => h, fun z => Bool.noConfusion z⟩
theorem spF {A B : Prop} (h : B) : (false = true → A) ∧ (false = false → B) := ⟨fun z => Bool.noConfusion z, fun _ => h⟩
/-- two-way splits -/
theorem two {A B : Bool → Prop} {c : Bool} (h1 : c = true → A true) (h2 : c = false → B false) : (c = true → A true) ∧ (c = false → B false) := ⟨h1, h2⟩
end

/-! ### the end: a law -/
theorem law_imp {α : Type} {M : Md} {k : Nat} {f : Addr} {fd : FuncData} {ps : List Str} {post : List Int → Da → Prop} (F : FnOk M.P M.w M.K M.mg M.base CX0 k f fd ps (SpD M.K [true] (fun ns : List Int => [.scr ns]) (fun ns => ns.length ≤ 63) post)) (h : ∀ ns d, post ns d → d = .bl true) :
    FnOk M.P M.w M.K M.mg M.base CX0 k f fd ps (fun vs H Q _ => ∃ (a : Addr) (ns : List Int), vs = [.ref a] ∧ SqL M.K H a (ns.map V.int) ∧ ns.length ≤ 63 ∧ ∀ H', Q (.bl true) H') :=
  F.imp fun vs H Q E ⟨a, ns, ev, hs, hl, q⟩ => by
    subst ev
    refine ⟨ns, H, Same.refl _, .cons (.scr hs) .nil, hl, fun d v Hs' H' g p r => ?_⟩
    cases h ns d p
    cases r.atom
    exact q H'
end DL

/-! DL6: what == tells of data. -/
namespace DL
open PySem PySem.Spec PyProof.Rows L2
inductive Shp : Nat → Da → Prop
  | non {n : Nat} : Shp n .non
  | bl {n : Nat} (b : Bool) : Shp n (.bl b)
  | int {n : Nat} (i : Int) : Shp n (.int i)
  | str {n : Nat} {x : Str} (h : PyData.strOk x = true) : Shp n (.str x)
  | lst {n : Nat} {l : List Da} (h : ∀ d ∈ l, Shp n d) : Shp (n + 1) (.lst l)
  | tup {n : Nat} {l : List Da} (h : ∀ d ∈ l, Shp n d) : Shp (n + 1) (.tup l)
theorem plAll_of : ∀ {l : List Da}, (∀ d ∈ l, Pl d) → PlAll l
  | [], _ => .nil
  | d :: l, h => .cons (h d List.mem_cons_self) (plAll_of fun e he => h e (List.mem_cons_of_mem _ he))
theorem Shp.pl {n : Nat} {d : Da} (h : Shp n d) : Pl d := by
  induction h with
  | non => exact .non
  | bl b => exact .bl b
  | int i => exact .int i
  | str h => exact .str _
  | lst h ih => exact .lst (plAll_of ih)
  | tup h ih => exact .tup (plAll_of ih)
theorem layAll_of : ∀ {l : List Da}, (∀ d ∈ l, PyData.canLay0 d.py = true) → PyData.canLayAll0 (l.map Da.py) = true
  | [], _ => by simp [PyData.canLayAll0]
  | d :: l, h => by
    rw [List.map_cons, PyData.canLayAll0, h d List.mem_cons_self, layAll_of fun e he => h e (List.mem_cons_of_mem _ he)]
    rfl
theorem depAll_of {n : Nat} : ∀ {l : List Da}, (∀ d ∈ l, PyData.depth d.py ≤ n) → PyData.depthAll (l.map Da.py) ≤ n
  | [], _ => by simp [PyData.depthAll]
  | d :: l, h => by
    have h1 := h d List.mem_cons_self
    have h2 := depAll_of (n := n) (l := l) fun e he => h e (List.mem_cons_of_mem _ he)
    simp only [PyData.depthAll, List.map_cons]
    omega
theorem Shp.lay {n : Nat} {d : Da} (h : Shp n d) : PyData.canLay0 d.py = true := by
  induction h with
  | non => simp [Da.py, PyData.canLay0]
  | bl b => simp [Da.py, PyData.canLay0]
  | int i => simp [Da.py, PyData.canLay0]
  | str h => simp [Da.py, PyData.canLay0, h]
  | lst h ih => rw [Da.py, PyData.canLay0]; exact layAll_of ih
  | tup h ih => rw [Da.py, PyData.canLay0]; exact layAll_of ih
theorem Shp.dep {n : Nat} {d : Da} (h : Shp n d) : PyData.depth d.py ≤ n + 1 := by
  induction h with
  | non => simp [Da.py, PyData.depth]
  | bl b => simp [Da.py, PyData.depth]
  | int i => simp [Da.py, PyData.depth]
  | str h => simp [Da.py, PyData.depth]
  | lst h ih =>
    rw [Da.py, PyData.depth]
    have := depAll_of ih
    omega
  | tup h ih =>
    rw [Da.py, PyData.depth]
    have := depAll_of ih
    omega
theorem Shp.shaped {n : Nat} {d : Da} (h : Shp n d) (hn : n ≤ 60) : SeqAt.shaped d.py = true := by
  show (d.py.canLay0 && decide (d.py.depth ≤ 64)) = true
  have := h.dep
  rw [h.lay, decide_eq_true (by omega)]
  rfl
section
variable {Φ : Bool → Prop}
theorem cmp_eqD {n m : Nat} {x y : Da} (h1 : Shp n x) (h2 : Shp m y) (h : Φ (PyData.eqv x.py y.py)) (hn : n ≤ 60 := by decide) (hm : m ≤ 60 := by decide) : CmpW Φ .Eq x y := .eqD h1.pl h2.pl (h1.shaped hn) (h2.shaped hm) h
theorem cmp_neD {n m : Nat} {x y : Da} (h1 : Shp n x) (h2 : Shp m y) (h : Φ (!PyData.eqv x.py y.py)) (hn : n ≤ 60 := by decide) (hm : m ≤ 60 := by decide) : CmpW Φ .NotEq x y := .neD h1.pl h2.pl (h1.shaped hn) (h2.shaped hm) h
theorem eqv_nil (l : List Da) : PyData.eqv (Da.py (.lst l)) (Da.py (.lst [])) = l.isEmpty := by
  rw [Da.py, Da.py, PyData.eqv]
  cases l with
  | nil => simp [PyData.eqvAll]
  | cons d l => simp [PyData.eqvAll]
/-- xs != [], xs == [] -/
theorem cmp_neNil {n : Nat} {l : List Da} (h1 : Shp n (.lst l)) (h : Φ (!l.isEmpty)) (hn : n ≤ 60 := by decide) : CmpW Φ .NotEq (.lst l) (.lst []) := by
  refine cmp_neD (m := 1) h1 (.lst fun d hd => by cases hd) ?_ hn
  rw [eqv_nil]
  exact h
theorem cmp_eqNil {n : Nat} {l : List Da} (h1 : Shp n (.lst l)) (h : Φ l.isEmpty) (hn : n ≤ 60 := by decide) : CmpW Φ .Eq (.lst l) (.lst []) := by
  refine cmp_eqD (m := 1) h1 (.lst fun d hd => by cases hd) ?_ hn
  rw [eqv_nil]
  exact h
end

/-! ### text[::-1], list[::-1] -/
theorem rev_pick (z : Str) : ((Builtin.Str.strSliceIndices none none (-1) z.length).filterMap (z.cps[·]?)) = z.cps.toList.reverse := by
  have hi : Builtin.Str.strSliceIndices none none (-1) z.length = (List.range z.length).map fun i => z.length - 1 - i := by
    unfold Builtin.Str.strSliceIndices
    show sliceRange ((z.length : Int) - 1) (-1) (-1) = _
    unfold sliceRange
    rw [if_neg (by omega)]
    dsimp only
    have hc : ((if (z.length : Int) - 1 > -1 then ((z.length : Int) - 1 - (-1) - (-1) - 1) / (-(-1)) else 0) : Int).toNat = z.length := by
      split
      · rw [show ((z.length : Int) - 1 - (-1) - (-1) - 1) = (z.length : Int) by omega, show (-(-1) : Int) = 1 from rfl, Int.ediv_one]
        omega
      · omega
    rw [hc]
    refine List.map_congr_left fun i hi => ?_
    have := List.mem_range.mp hi
    omega
  rw [hi]
  have key : ∀ n, n ≤ z.length → (((List.range n).map fun i => z.length - 1 - i).filterMap (z.cps[·]?)) = (z.cps.toList.drop (z.length - n)).reverse := by
    intro n
    induction n with
    | zero =>
      intro _
      rw [Nat.sub_zero, List.drop_of_length_le (by show z.cps.toList.length ≤ z.cps.size; simp)]
      rfl
    | succ n ih =>
      intro hn
      rw [List.range_succ, List.map_append, List.filterMap_append, ih (by omega)]
      have hlt : z.length - 1 - n < z.cps.toList.length := by
        show z.cps.size - 1 - n < z.cps.toList.length
        have : z.length = z.cps.size := rfl
        simp
        omega
      have e1 : z.length - (n + 1) = z.length - 1 - n := by omega
      have e2 : z.length - n = z.length - 1 - n + 1 := by omega
      rw [e1, e2, List.drop_eq_getElem_cons hlt, List.reverse_cons]
      congr 1
      simp only [List.map_cons, List.map_nil]
      rw [List.filterMap_cons_some (b := z.cps.toList[z.length - 1 - n]) (by rw [← Array.getElem?_toList]; exact List.getElem?_eq_getElem hlt)]
      rfl
  rw [key z.length (Nat.le_refl _), Nat.sub_self, List.drop_zero]
/-- the step -1 as written -/
abbrev mone (k : Nat) (p1 p2 : Pos) : Expr := .UnaryOp .USub (.Constant (.int 1) k p1) p2
abbrev slB (k : Nat) (p1 p2 p3 : Pos) : Expr := .Slice none none (some (mone k p1 p2)) p3
theorem mone_po {X : Cx} {k : Nat} {p1 p2 : Pos} : PO X (some (mone k p1 p2)) (tPart (tUn (rU fun i => .int (-i)) (tC (.int 1)))) := po_some (pe_un un_neg pe_int)
/-- the slice, made behind the thing -/
theorem slice_made {X : Cx} {pins : List (Addr × Obj)} {σ : L2.St} {H : Hp} {s : Shared} {k : Nat} {p1 p2 p3 : Pos} {Q : Value → Shared → Prop} (I : Inv X pins σ H s)
    (q : ∀ va vb vc s2, Inv X pins σ H s2 → IsPart va none → IsPart vb none → IsPart vc (some (-1)) → Q (.ref s2.heap.objs.size) { s2 with heap := s2.heap.push { cls := .type "slice", data := .fields #[va, vb, vc] } }) : wpAny (model X.prog X.w) X.A (eval (slB k p1 p2 p3) X.env) Q X.xe s := by
  have none_run : ∀ {s1 : Shared}, Inv X pins σ H s1 → _ := fun {s1} J => po_none.run pins s1 σ H (fun o G => o = none ∧ G = H) J ⟨rfl, rfl⟩
  refine wpAny_Slice (thn (none_run I) fun va sa ⟨_, _, Ia, pa, ea, ga⟩ => ?_)
  subst ea ga
  refine thn (po_none.run pins sa σ _ (fun o G => o = none ∧ G = _) Ia ⟨rfl, rfl⟩) fun vb sb ⟨_, _, Ib, pb, eb, gb⟩ => ?_
  subst eb gb
  refine thn (mone_po.run pins sb σ _ (fun o G => o = some (-1) ∧ G = _) Ib ⟨1, rfl, -1, rfl, rfl, rfl⟩) fun vc sc ⟨_, _, Ic, pc, ec, gc⟩ => ?_
  subst ec gc
  exact q va vb vc sc Ic pa pb pc
/-! ### tuples reversed -/
theorem pick_revT (xs : Array Value) : ((List.range xs.size).filterMap fun (m : Nat) => xs[(((xs.size : Int) - 1) + (m : Int) * (-1)).toNat]?).toArray = xs.toList.reverse.toArray := by
  have key : ∀ n, n ≤ xs.size → ((List.range n).filterMap fun (m : Nat) => xs[(((xs.size : Int) - 1) + (m : Int) * (-1)).toNat]?) = (xs.toList.drop (xs.size - n)).reverse := by
    intro n
    induction n with
    | zero =>
      intro _
      rw [Nat.sub_zero, List.drop_of_length_le (by simp)]
      rfl
    | succ n ih =>
      intro hn
      rw [List.range_succ, List.filterMap_append, ih (by omega)]
      have hlt : xs.size - 1 - n < xs.toList.length := by simp; omega
      have e1 : xs.size - (n + 1) = xs.size - 1 - n := by omega
      have e2 : xs.size - n = xs.size - 1 - n + 1 := by omega
      rw [e1, e2, List.drop_eq_getElem_cons hlt, List.reverse_cons]
      congr 1
      have e3 : (((xs.size : Int) - 1) + (n : Int) * (-1)).toNat = xs.size - 1 - n := by omega
      rw [List.filterMap_cons_some (b := xs.toList[xs.size - 1 - n]) (by rw [e3, ← Array.getElem?_toList]; exact List.getElem?_eq_getElem hlt)]
      rfl
  rw [key xs.size (Nat.le_refl _), Nat.sub_self, List.drop_zero]
section
variable {prog : Program} {w : World} {A : Around} {E : Value → Shared → Prop} {s : Shared}
theorem applied_rev {sl : Addr} {u : Tok} {n : Nat} {Q : Int × Int × Nat → Shared → Prop} (hs : s.heap.IsSliceOf sl .none .none (.int (-1) u))
    (h : Q ((n : Int) - 1, -1, n) s) : wpAny (model prog w) A (Builtin.Slice.sliceApplied (.ref sl) (pure (n : Int))) Q E s := by
  obtain ⟨os, hos, hcs, hds⟩ := id hs
  unfold Builtin.Slice.sliceApplied Builtin.Slice.sliceFields
  refine wpAny_bind (wpAny_bind (wpAny_field hos hds (x := .none) rfl (wpAny_bind (wpAny_field hos hds (x := .none) rfl (wpAny_bind (wpAny_field hos hds (x := .int (-1) u) rfl (wpAny_pure ?_)))))))
  refine wpAny_bind (slicePart_int ?_)
  show wpAny _ _ (if ((-1 : Int) == 0) = true then _ else _) _ _ s
  rw [if_neg (by decide)]
  refine wpAny_bind (slicePart_none (wpAny_bind (slicePart_none (wpAny_bind (wpAny_pure ?_)))))
  show wpAny _ _ (match Builtin.Slice.sliceAdjust none none (-1) (n : Int) with | (lo, hi) => pure (lo, (-1 : Int), Builtin.Slice.slicePlaces lo hi (-1))) _ _ s
  have e1 : Builtin.Slice.sliceAdjust none none (-1) (n : Int) = ((n : Int) - 1, -1) := by
    unfold Builtin.Slice.sliceAdjust
    simp
  rw [e1]
  show wpAny _ _ (pure ((n : Int) - 1, (-1 : Int), Builtin.Slice.slicePlaces ((n : Int) - 1) (-1) (-1))) _ _ s
  have e2 : Builtin.Slice.slicePlaces ((n : Int) - 1) (-1) (-1) = n := by
    unfold Builtin.Slice.slicePlaces
    rw [if_neg (by omega)]
    split
    · rw [show (-(-1) : Int) = 1 from rfl, Int.ediv_one]
      omega
    · omega
  rw [e2]
  exact wpAny_pure h
theorem getItem_tup_rev {t sl : Addr} {items : Array Value} {u : Tok} {Q : Value → Shared → Prop} (ht : IsTup s.heap t items) (hs : s.heap.IsSliceOf sl .none .none (.int (-1) u))
    (h : Q (.ref s.heap.objs.size) { s with heap := s.heap.push { cls := .type "tuple", data := .seq items.toList.reverse.toArray } })
    (hsz : items.size ≤ sizeLine) : wpAny (model prog w) A (getItem (.ref t) (.ref sl)) Q E s := by
  have htake : sizeOk (.seq items.toList.reverse.toArray) := by
    show items.toList.reverse.toArray.size ≤ sizeLine
    simpa using hsz
  obtain ⟨os, hos, hcs, hds⟩ := id hs
  have hTs : s.TypeIs (.ref sl) "slice" := ⟨os, hos, hcs⟩
  unfold getItem
  try with_reducible refine wpAny_holding ?_
  first | refine wpAny_bind (wpAny_pure ?_) | skip
  refine wpAny_bind (wpAny_sequenceKey ht.typeIs (by decide) ?_)
  refine wpAny_bind (wpAny_callSpecial?_slot (name := Str.ofString "__getitem__") ht.typeIs PyProof.Rows.slot_tuple_getitem
    (wpAny_call_entry PyProof.Rows.slot_tuple_getitem ht.typeIs entry_tuple_getitem ?_ (args_tuple_getitem _ _)))
  show wpAny _ _ (Builtin.Tuple.tupleItemsOf (.ref t) >>= _) _ _ s
  refine wpAny_bind (tupleItemsOf_ ht ?_)
  refine wpAny_bind (wpAny_typeOf hTs ?_)
  rw [if_pos (by decide)]
  refine wpAny_bind (applied_rev hs ?_)
  have hno : ¬ ((((items.size : Int) - 1 == 0) && (-1 : Int) == 1 && items.size == items.size) = true) := by
    intro q
    rw [Bool.and_eq_true, Bool.and_eq_true] at q
    exact absurd (eq_of_beq q.1.2) (by decide)
  show wpAny _ _ (if ((((items.size : Int) - 1 == 0) && (-1 : Int) == 1 && items.size == items.size) = true) then _ else _) _ _ s
  rw [if_neg hno, pick_revT]
  first
    | exact wpAny_bind (m := Builtin.Tuple.tupleExact _) (wpAny_newObj_type (wpAny_pure ⟨_, rfl, wpAny_pure h⟩) htake)
    | exact wpAny_bind (m := Builtin.Tuple.tupleExact _) (wpAny_newObj_type (wpAny_bind (wpAny_pure (wpAny_pure ⟨_, rfl, wpAny_pure h⟩))) htake)
    | exact wpAny_bind (wpAny_bind (m := Builtin.Tuple.tupleExact _) (wpAny_newObj_type (wpAny_pure (wpAny_pure ⟨_, rfl, wpAny_pure h⟩)) htake))
    | exact wpAny_bind (wpAny_bind (m := Builtin.Tuple.tupleExact _) (wpAny_newObj_type (wpAny_pure ⟨_, rfl, wpAny_pure h⟩) htake))
end
theorem pe_revS {X : Cx} {e : Expr} {te : TE} {k : Nat} {p1 p2 p3 pos : Pos} (he : PE X e te) : PE X (.Subscript e (slB k p1 p2 p3) pos) (fun σ H Q => te σ H fun x H1 =>
    (∃ z, x = .str z ∧ z.length ≤ sizeLine ∧ Q (.str ⟨z.cps.toList.reverse.toArray⟩) H1) ∨ (∃ a xs, x = .ref a ∧ SqL X.K H1 a xs ∧ ∀ p, H1 p = none → Q (.ref p) (upd H1 p (.lst xs.reverse))) ∨ (∃ a xs, x = .ref a ∧ SqT X.K H1 a xs ∧ ∀ p, H1 p = none → Q (.ref p) (upd H1 p (.tup xs.reverse)))) := by
  refine .mk fun pins s σ H Q I h => ?_
  refine Subscript_ (thn (he.run pins s σ H _ I h) fun v s1 ⟨x, H4, I1, r1, q1⟩ => slice_made I1 fun vl vu vs s4 I4 pl pu ps => ?_)
  have I5 : Inv X pins σ H4 { s4 with heap := s4.heap.push { cls := .type "slice", data := .fields #[vl, vu, vs] } } :=
    I4.kept (t' := s4.toks) fun b ob q => Heap.get?_push_of_some _ q
  rcases q1 with ⟨z, rfl, hz, q⟩ | ⟨a, xs, ex, hx, q⟩ | ⟨a, xs, ex, hx, q⟩
  · obtain ⟨t, rfl⟩ := r1
    show wpAny (model X.prog X.w) X.A (subscriptTail e (slB k p1 p2 p3) (.str z t) (.ref s4.heap.objs.size)) (EP X pins σ Q) X.xe { s4 with heap := s4.heap.push { cls := .type "slice", data := .fields #[vl, vu, vs] } }
    refine tail_any (ops := [.str z t, .ref s4.heap.objs.size]) (typeIs_str _ z t) (PySem.F.slot_str_getitem.lookup) ?_ (by with_unfolding_all rfl)
    obtain ⟨l, rfl, el⟩ := IsPart.raw pl
    obtain ⟨u, rfl, eu⟩ := IsPart.raw pu
    obtain ⟨w, rfl, ew⟩ := IsPart.raw ps
    obtain rfl : l = none := by cases l; rfl; cases el
    obtain rfl : u = none := by cases u; rfl; cases eu
    refine wpAny_getItem_str_slice (l := none) (u := none) (st := w) ⟨_, Heap.get?_push_size _ rfl, rfl, rfl⟩ (by rw [ew]; rfl) ?_
    unfold sliceMade
    rw [ew]
    have hp : slicePicked z none none w = Builtin.Str.strSliceIndices none none (-1) z.length := by
      unfold slicePicked
      rw [ew]
      rfl
    rw [if_neg (by simp), hp, rev_pick]
    refine ⟨?_, .str _, H4, I5.tok _, ⟨_, rfl⟩, q⟩
    show (z.cps.toList.reverse.toArray).size ≤ sizeLine
    rw [List.size_toArray, List.length_reverse, Array.length_toList]
    exact hz
  · subst ex
    cases r1
    obtain ⟨own, rv, hL, hz⟩ := I5.list hx
    have hlen := rv.length
    show wpAny (model X.prog X.w) X.A (subscriptTail e (slB k p1 p2 p3) (.ref a) (.ref s4.heap.objs.size)) (EP X pins σ Q) X.xe { s4 with heap := s4.heap.push { cls := .type "slice", data := .fields #[vl, vu, vs] } }
    refine tail_any (ops := [.ref a, .ref _]) hL.isList.typeIs (PySem.slot_list_getitem.lookup) ?_ (by with_unfolding_all rfl)
    refine wpAny_getItem_list_slice hL.isList (Heap.IsSliceOf.new _ vl vu vs) pl pu ps
      (by decide) ?_ (by rw [List.size_toArray]; omega)
    rw [PySem.W.krv_pick]
    refine ⟨.ref _, _, I5.laid (t' := s4.toks) (o := .lst xs.reverse) (fun _ _ g => Heap.get?_push_of_some _ g) (Nat.le_refl _) ?_, rfl, q _ (I5.hok.fresh (Nat.le_refl _))⟩
    exact ⟨by simpa using hz, _, 0, rv.reverse, Heap.get?_push_size _ rfl⟩
  · subst ex
    cases r1
    obtain ⟨its, rv, ht, hz⟩ := I5.tuple hx
    show wpAny (model X.prog X.w) X.A (subscriptTail e (slB k p1 p2 p3) (.ref a) (.ref s4.heap.objs.size)) (EP X pins σ Q) X.xe { s4 with heap := s4.heap.push { cls := .type "slice", data := .fields #[vl, vu, vs] } }
    refine tail_any (ops := [.ref a, .ref _]) ht.typeIs (PyProof.Rows.slot_tuple_getitem.lookup) ?_ (by with_unfolding_all rfl)
    obtain ⟨w, rfl⟩ : ∃ w, vs = .int (-1) w := by cases ps; exact ⟨_, rfl⟩
    obtain rfl : vl = .none := by cases pl; rfl
    obtain rfl : vu = .none := by cases pu; rfl
    refine getItem_tup_rev ht (Heap.IsSliceOf.new _ _ _ _) ?_ (by rw [List.size_toArray]; have := rv.length; omega)
    refine ⟨.ref _, _, I5.laid (t' := s4.toks) (o := .tup xs.reverse) (fun _ _ g => Heap.get?_push_of_some _ g) (Nat.le_refl _) ?_, rfl, q _ (I5.hok.fresh (Nat.le_refl _))⟩
    exact ⟨by simpa using hz, _, rv.reverse, IsTup.new _ _⟩
inductive RevW (Φ : Da → Prop) : Da → Prop
  | str {z : Str} : z.length ≤ sizeLine → Φ (.str ⟨z.cps.toList.reverse.toArray⟩) → RevW Φ (.str z)
  | lst {l : List Da} : Φ (.lst l.reverse) → RevW Φ (.lst l)
  | tup {l : List Da} : Φ (.tup l.reverse) → RevW Φ (.tup l)
section
variable {M : Md} {X : Cx} {δ : Sg} {m : Bool} {Φ : Da → Prop} {a : Expr}
theorem de_rev {k : Nat} {p1 p2 p3 pos : Pos} (h : DE X a δ fun x => RevW Φ x) : DM X m (.Subscript a (.Slice none none (some (.UnaryOp .USub (.Constant (.int 1) k p1) p2)) p3) pos) δ Φ := DM.of <| .mk fun Bs B Hs H σ o Q q =>
  WE.of (pe_revS pe_W) (h Bs B Hs H σ o _ fun x v Hs1 H1 g1 hb r1 => by
    cases hb with
    | str hl h => cases r1.atom; exact .inl ⟨_, rfl, hl, q _ _ Hs1 H1 g1 h (.a _)⟩
    | lst h =>
      obtain ⟨p, vs, rfl, hp, ra⟩ := r1.lst_inv
      exact .inr (.inl ⟨p, vs, rfl, .of (g1.sub _ _ hp), fun b hb => q _ _ _ _ (g1.trans (Go.new g1.sub hb)) h (.lst upd_same (ra.rev.mono (same_upd (g1.sub.free hb))))⟩)
    | tup h =>
      obtain ⟨p, vs, rfl, hp, ra⟩ := r1.tup_inv
      exact .inr (.inr ⟨p, vs, rfl, .of (g1.sub _ _ hp), fun b hb => q _ _ _ _ (g1.trans (Go.new g1.sub hb)) h (.tup upd_same (ra.rev.mono (same_upd (g1.sub.free hb))))⟩))
end
end DL

/-! DL7: the list of draws; comprehensions' usual forms. -/
namespace DL
open PySem PySem.Spec PyProof.Rows L2
section
variable {M : Md} {X : Cx} {k : Nat} {N : List Str} {sc cs : Scope} {δ δ' : Sg} {m : Bool} {Φ Ψ : Da → Prop} {x y : Str} {pos p2 p3 apos : Pos} {e a b o tg it : Expr} {es : List Expr}
  {st : Stmt} {sts : List Stmt} {nx bk ct : Sg → Prop} {rt : Da → Prop}
theorem upd_id {H : Hp} {p : Addr} {o : HO} (h : H p = some o) : upd H p o = H := by
  funext q
  unfold upd
  split
  · rename_i e; rw [e, h]
  · rfl
theorem drw_ok {H : Hp} {h : Heap} {p : Addr} (d : Drw p h) {P : Program} {w : World} : ObjOk P w H h p (.ext (Drw p)) := by
  refine ⟨d, ?_, fun h1 h2 ⟨n, x, y, t, u, e, b⟩ k => ⟨n, x, y, t, u, k _ e, b⟩⟩
  obtain ⟨n, x, y, t, u, e, _⟩ := d
  exact ⟨_, e⟩
/-- draws[0] = e -/
theorem set_drw : PSet X (fun o i v H Q => ∃ p k z, o = .ref p ∧ H p = some (.ext (Drw p)) ∧ i = .int k ∧ (k = 0 ∨ k = 1) ∧ v = .int z ∧ (k = 1 → 0 ≤ z ∧ z < 2147483648) ∧ Q H) := by
  intro pins s σ H o i v ov iv u Q I ro ri rv h
  obtain ⟨p, k, z, rfl, hp, rfl, hk, rfl, hz, q⟩ := h
  cases ro
  obtain ⟨t, rfl⟩ := ri
  obtain ⟨tz, rfl⟩ := rv
  obtain ⟨⟨n, a, b, ta, tb, ho, hb⟩, _, _⟩ := I.hok p _ hp
  have main : ∀ j : Nat, j = 0 ∨ (j = 1 ∧ 0 ≤ z ∧ z < 2147483648) → Inv X pins σ H { s with heap := s.heap.update p (Obj.mapSeq (·.setIfInBounds j (.int z tz))) } := fun j hj => by
    have e : (s.heap.update p (Obj.mapSeq (·.setIfInBounds j (.int z tz)))).get? p = some { cls := .type "list", data := .seq (([.int a ta, .int b tb] : List Value).set j (.int z tz)).toArray n } := by
      have em := mapSeq_set [.int a ta, .int b tb] n j (.int z tz)
      rw [Heap.get?_update_self _ ho (by rw [em] <;> rfl), em]
    have I' := I.write (x := p) (e := p) (o := .ext (Drw p)) (t' := s.toks) (h' := s.heap.update p (Obj.mapSeq (·.setIfInBounds j (.int z tz)))) (by rw [hp]; trivial) (.inl rfl) (fun b u hb q => (Heap.get?_update_other _ _ (Ne.symm hb)).trans q) ⟨_, e⟩ (drw_ok (by
      rcases hj with rfl | ⟨rfl, hz⟩
      · exact ⟨n, z, b, tz, tb, e, hb⟩
      · exact ⟨n, a, z, ta, tz, e, hz⟩))
    rw [upd_id hp] at I'
    exact I'
  rcases hk with rfl | rfl
  · exact PySem.W.ki_setAt ho (by decide) (by decide) (by show (0 : Int) < 2; decide) ⟨_, main 0 (.inl rfl), q⟩
  · exact PySem.W.ki_setAt ho (by decide) (by decide) (by show (1 : Int) < 2; decide) ⟨_, main 1 (.inr ⟨rfl, hz rfl⟩), q⟩
theorem ds_drwSet (S : Sc M X k N sc cs) (hg : Gt N δ x (.d .drw)) (hv : visB sc x = true) (h : DE X e δ fun d => DE X b δ fun y => ∃ z i, d = .int z ∧ y = .int i ∧ (i = 0 ∨ i = 1) ∧ (i = 1 → 0 ≤ z ∧ z < 2147483648) ∧ nx δ)
    (hs : swapsWithSole [.Subscript (.Name x p2) b p3] e pos.line X.env = pure false := by rfl) (hw : swappedStores [.Subscript (.Name x p2) b p3] e X.env = pure none := by rfl)
    (h1 : (assignEach [.Subscript (.Name x p2) b p3] X.env).map (·.2) = [assign (.Subscript (.Name x p2) b p3) X.env] := by rfl)
    (ha : ∀ v, assign (.Subscript (.Name x p2) b p3) X.env v = (do
      let ov ← holding [v] (eval (.Name x p2) X.env)
      let iv ← holding [v, ov] (eval b X.env)
      standAt p3
      holding [v, ov, iv] (setItem ov iv v)
      release [v, ov, iv] []) := by intro _; rfl) : DS X (.Assign [.Subscript (.Name x p2) b p3] e pos) δ nx rt bk ct := .mk fun Bs B Hs H σ o D f => by
  obtain ⟨i, hi, h2⟩ := hg.at
  obtain ⟨v, h3, r⟩ := o.slot i _ h2
  obtain ⟨p, rfl, hp⟩ := r.drw_inv
  obtain ⟨v1, v2, v3⟩ := visB_ok hv
  refine WS.of (ps_asg pe_W (pg_sub (pe_var (i := i) (by rw [S.n]; exact hi) (by rw [S.hsc]; exact v1) v2 v3) pe_W set_drw ha) hs hw h1) (h Bs B Hs H σ o _ fun d w Hs1 H1 g1 q1 r1 => ⟨_, h3, q1 Bs B Hs1 H1 σ (o.mono g1) _ fun y z Hs2 H2 g2 ⟨zz, j, ed, ey, hj, hz, pd⟩ r2 => ?_⟩)
  subst ed ey
  cases r1.atom
  cases r2.atom
  have g := g1.trans g2
  exact ⟨p, j, zz, rfl, g2.sub _ _ (g.ss _ _ hp), rfl, hj, rfl, hz, f.nx _ _ Hs2 H2 (o.mono g) g.ss pd⟩
/-- [a, b], two numbers: the list of draws -/
theorem pe_lstDrw {ta : TA} (h : PA X es ta) : PE X (.List es pos) (fun σ H Q => ta σ H fun xs H1 => ∃ i j, xs = [.int i, .int j] ∧ (0 ≤ j ∧ j < 2147483648) ∧ ∀ p, H1 p = none → Q (.ref p) (upd H1 p (.ext (Drw p)))) := by
  refine ⟨fun pins s σ H Q I hq => ?_⟩
  refine wpAny_List_spliced (thn (h.run pos pins s σ H _ I hq) fun us s1 ⟨xs, H1, I1, r, i, j, ex, hb, q⟩ => ?_)
  subst ex
  obtain ⟨u1, u2, rfl, ⟨t1, e1⟩, ⟨t2, e2⟩⟩ := vals2 r
  subst e1 e2
  refine ⟨by show 2 ≤ sizeLine; decide, ?_⟩
  have hf : H1 s1.heap.objs.size = none := I1.hok.fresh (Nat.le_refl _)
  refine ⟨.ref s1.heap.objs.size, upd H1 s1.heap.objs.size (.ext (Drw s1.heap.objs.size)), I1.laid (t' := s1.toks) (fun b u e => Heap.get?_push_of_some _ e) (Nat.le_refl _) ?_, rfl, q _ hf⟩
  exact drw_ok ⟨0, i, j, t1, t2, Heap.get?_push_size _ rfl, hb⟩
theorem de_lstDrw (h : DAt X es δ fun ds => ∃ i j, ds = [.int i, .int j] ∧ (0 ≤ j ∧ j < 2147483648) ∧ Φ .drw) : DM X m (.List es pos) δ Φ := DM.of <| .mk fun Bs B Hs H σ o Q q =>
  WE.of (pe_lstDrw pa_W) (h Bs B Hs H σ o _ fun ds vs Hs1 H1 g1 ⟨i, j, e, hb, p⟩ r _ => by
    subst e
    have e2 : vs = [.int i, .int j] := r.atoms (xs := [.int i, .int j])
    subst e2
    exact ⟨i, j, rfl, hb, fun a ha => q _ _ _ _ (g1.trans (Go.new g1.sub ha)) p (.drw upd_same)⟩)

theorem db_freezeL {l : List Da} (hg : Gt N δ x (.ol l)) (hs : ∃ δ', Ss N δ x (some (.d (.lst l))) δ' ∧ DB X sts δ' nx rt bk ct) (nd : N.Nodup) : DB X sts δ nx rt bk ct := db_freeze hg rfl hs nd
theorem db_freezeK {l : List (Key × V)} (hg : Gt N δ x (.ok l)) (hs : ∃ δ', Ss N δ x (some (.d (.dk l))) δ' ∧ DB X sts δ' nx rt bk ct) (nd : N.Nodup) : DB X sts δ nx rt bk ct := db_freeze hg rfl hs nd
theorem db_freezeT {l : List (List Key × V)} (hg : Gt N δ x (.ot l)) (hs : ∃ δ', Ss N δ x (some (.d (.dt l))) δ' ∧ DB X sts δ' nx rt bk ct) (nd : N.Nodup) : DB X sts δ nx rt bk ct := db_freeze hg rfl hs nd

/-! ### comprehensions -/
theorem de_lc1 (S : Sc M X k N sc cs) {scope : Scope} {ifs : List Expr} (h : DI X tg it δ fun ds => LcD M X k N sc scope tg e ifs (tgN 3 tg) δ ds Φ) (hk : blkB N sc scope (tgN 3 tg) = true)
    (hs : ∀ x, foldedSetIterable it X.env x = pure x := by intro _; rfl) : DM X m (.ListComp e [⟨tg, it, ifs, 0⟩] scope pos) δ Φ := de_lc S h hk hs
theorem ds_setLc1 (S : Sc M X k N sc cs) {scope : Scope} {ifs : List Expr} {py lp : Pos} (h : DI X tg it δ fun ds => LcD M X k N sc scope tg e ifs (tgN 3 tg) δ ds fun d => ∃ δ', Ss N δ y (some (.d d)) δ' ∧ nx δ') (hk : blkB N sc scope (tgN 3 tg) = true)
    (hy : (sc.names.lookup y == some .local && (py.line == lp.line) && !(scope.names.any fun (n, k) => n == y && (k == .local || k == .cell))) = true) (hN : N.contains y = true) (hs : ∀ x, foldedSetIterable it X.env x = pure x := by intro _; rfl) :
    DS X (.Assign [.Name y py] (.ListComp e [⟨tg, it, ifs, 0⟩] scope lp) pos) δ nx rt bk ct := ds_setLc S h hk hy hN hs
variable {scope : Scope} {os : List Str} {ifs : List Expr}
/-- [f(a) for a in l] -/
theorem lc_map {α : Type} {l : List α} {g f : α → Da} {δw : Sg} (hw : Wp N os δ δw) (hz : l.length ≤ 1000000)
    (h : ∀ X', Sc M X' k N (relS scope sc) scope → ∀ a ∈ l, DG X' tg os (g a) δw fun δ2 => ∀ X', Sc M X' k N (relS scope sc) scope → DE X' e δ2 fun y => y = f a) (fin : Φ (.lst (l.map f))) : LcD M X k N sc scope tg e [] os δ (l.map g) Φ := by
  refine ⟨δw, hw, by simpa using hz, fun i acc => acc = (l.take i).map f, rfl, fun X' S' i d acc hi hp => ?_, fun acc _ hp => ?_⟩
  · rw [List.getElem?_map] at hi
    obtain ⟨a, ha, rfl⟩ := Option.map_eq_some_iff.mp hi
    have hd := h X' S' a (List.mem_of_getElem? ha)
    refine .mk fun Bs B Hs H σ v o r Q q => hd Bs B Hs H σ v o r Q fun δ' σ' Hs' H' o' g' kp h2 => q δ' σ' Hs' H' o' g' kp fun X2 S2 => DTs.nil ⟨fun _ X3 S3 => ?_, fun z => Bool.noConfusion z⟩
    refine (h2 X3 S3).imp fun y ey => ?_
    dsimp only
    rw [ey, hp, List.take_add_one, ha, Option.toList_some, List.map_append]
    rfl
  · simp at hp
    rw [hp]
    exact fin
/-- [f(a) for a in l if p(a)] -/
theorem lc_filter {α : Type} {l : List α} {g f : α → Da} {p : α → Bool} {δw : Sg} {c : Expr} (hw : Wp N os δ δw) (hz : l.length ≤ 1000000)
    (h : ∀ X', Sc M X' k N (relS scope sc) scope → ∀ a ∈ l, DG X' tg os (g a) δw fun δ2 => ∀ X', Sc M X' k N (relS scope sc) scope → DT X' c δ2 fun z => z = p a ∧ (z = true → ∀ X', Sc M X' k N (relS scope sc) scope → DE X' e δ2 fun y => y = f a)) (fin : Φ (.lst ((l.filter p).map f))) :
    LcD M X k N sc scope tg e [c] os δ (l.map g) Φ := by
  refine ⟨δw, hw, by simpa using hz, fun i acc => acc = ((l.take i).filter p).map f, by simp, fun X' S' i d acc hi hp => ?_, fun acc _ hp => ?_⟩
  · rw [List.getElem?_map] at hi
    obtain ⟨a, ha, rfl⟩ := Option.map_eq_some_iff.mp hi
    have hd := h X' S' a (List.mem_of_getElem? ha)
    have ht : l.take (i + 1) = l.take i ++ [a] := by rw [List.take_add_one, ha]; rfl
    refine .mk fun Bs B Hs H σ v o r Q q => hd Bs B Hs H σ v o r Q fun δ' σ' Hs' H' o' g' kp h2 => q δ' σ' Hs' H' o' g' kp fun X2 S2 => DTs.one ((h2 X2 S2).imp fun z ⟨ez, hy⟩ => ⟨fun hz X3 S3 => ?_, fun hz => ?_⟩)
    · refine (hy hz X3 S3).imp fun y ey => ?_
      dsimp only
      rw [ey, hp, ht, List.filter_append, List.map_append, List.filter_cons_of_pos (by rw [← ez]; exact hz)]
      rfl
    · dsimp only
      rw [hp, ht, List.filter_append, List.filter_cons_of_neg (by rw [← ez, hz]; decide)]
      simp
  · simp at hp
    rw [hp]
    exact fin
/-- [.. for a in l], whatever comes each time -/
theorem lc_any {α : Type} {l : List α} {g : α → Da} {R : α → Da → Prop} {δw : Sg} (hw : Wp N os δ δw) (hz : l.length ≤ 1000000)
    (h : ∀ X', Sc M X' k N (relS scope sc) scope → ∀ a ∈ l, DG X' tg os (g a) δw fun δ2 => ∀ X', Sc M X' k N (relS scope sc) scope → DE X' e δ2 fun y => R a y) (fin : ∀ r : List Da, r.length = l.length → (∀ (i : Nat) a d, l[i]? = some a → r[i]? = some d → R a d) → Φ (.lst r)) : LcD M X k N sc scope tg e [] os δ (l.map g) Φ := by
  refine ⟨δw, hw, by simpa using hz, fun i acc => i ≤ l.length ∧ acc.length = i ∧ ∀ (j : Nat) a d, l[j]? = some a → acc[j]? = some d → R a d, ⟨Nat.zero_le _, rfl, fun j a d _ z => by simp at z⟩, fun X' S' i d acc hi hp => ?_, fun acc _ hp => ?_⟩
  · rw [List.getElem?_map] at hi
    obtain ⟨a, ha, rfl⟩ := Option.map_eq_some_iff.mp hi
    have hd := h X' S' a (List.mem_of_getElem? ha)
    obtain ⟨h0, h1, h2⟩ := hp
    have hil : i < l.length := (List.getElem?_eq_some_iff.mp ha).1
    refine .mk fun Bs B Hs H σ v o r Q q => hd Bs B Hs H σ v o r Q fun δ' σ' Hs' H' o' g' kp h3 => q δ' σ' Hs' H' o' g' kp fun X2 S2 => DTs.nil ⟨fun _ X3 S3 => ?_, fun z => Bool.noConfusion z⟩
    refine (h3 X3 S3).imp fun y ey => ⟨by omega, by simp [h1], fun j a' d' e1 e2 => ?_⟩
    by_cases hj : j < i
    · rw [List.getElem?_append_left (by omega)] at e2
      exact h2 j a' d' e1 e2
    · rw [List.getElem?_append_right (by omega)] at e2
      have hji : j = i := by
        cases hh : j - acc.length with
        | zero => omega
        | succ n => rw [hh] at e2; simp at e2
      subst hji
      rw [ha] at e1
      cases e1
      rw [show j - acc.length = 0 by omega] at e2
      simp at e2
      rw [← e2]
      exact ey
  · simp at hp
    exact fin acc hp.1 hp.2
end
end DL

/-! DL8: zip of two texts, by GoesN.zip2. -/
namespace DL
open PySem PySem.Spec PyProof.Rows L2
/-- the signs of two texts side by side -/
def ItxX (x y : Str) : It :=
  ⟨fun i _ => i < min x.cps.size y.cps.size,
    fun i H v H' => ∃ T c d, v = .ref T ∧ H T = none ∧ H' = upd H T (.tup [.str ⟨#[c]⟩, .str ⟨#[d]⟩]) ∧ x.cps[i]? = some c ∧ y.cps[i]? = some d,
    fun i _ => i = min x.cps.size y.cps.size⟩
/-- how the five cells of zip(x, y) stand, laid from n on -/
def StX (n : Nat) (x y : Str) (t u : Tok) (i : Nat) (h : Heap) : Prop :=
  IsZip h (n + 4) (n + 2) (n + 3) .none ∧ IsTupOf2 h (n + 2) (.ref n) (.ref (n + 1)) ∧ (∃ a b, IsTupOf2 h (n + 3) a b) ∧ h.IsStrIter n (strIterType x) x t i ∧ h.IsStrIter (n + 1) (strIterType y) y u i
abbrev fpX (n : Nat) : List Addr := [n + 4, n + 2, n + 3, n, n + 1]
theorem goesX {P : Program} {w : World} {A : Around} (hh : A.handled = none) (elts : List Expr) (kk : Nat) (tpos : Pos) (n : Nat) (x y : Str) (t u : Tok) :
    GoesN P w A (.Tuple elts kk tpos) (n + 4) (fpX n) [n + 4, n + 3, n, n + 1] (min x.cps.size y.cps.size)
      (fun i h v h' => ∃ T a b, v = .ref T ∧ h.objs.size ≤ T ∧ (∃ c s, x.cps[i]? = some c ∧ a = .str ⟨#[c]⟩ s) ∧ (∃ c s, y.cps[i]? = some c ∧ b = .str ⟨#[c]⟩ s) ∧ h'.IsTuple T #[a, b]) (StX n x y t u) :=
  GoesN.zip2 (zip_sep2 (N := n) (fp1 := []) (fp2 := []) (fun _ z => nomatch z) fun _ z => nomatch z) (Draws.text (A := A.in1) (show A.in1.handled = none from hh) n x t) (Draws.text (A := A.in1) (show A.in1.handled = none from hh) (n + 1) y u)
theorem noLoc {h : Heap} {b : Addr} {c : String} {d : Data} (e : ∃ o, h.get? b = some o ∧ o.cls = .type c ∧ o.data = d) (hd : ∀ v, d ≠ .cell v) : ∃ o, h.get? b = some o ∧ ∀ v, o.data ≠ .cell v := by
  obtain ⟨o, e1, _, e2⟩ := e
  exact ⟨o, e1, fun v => by rw [e2]; exact hd v⟩
theorem StX.live {n i : Nat} {x y : Str} {t u : Tok} {h : Heap} (st : StX n x y t u i h) : ∀ b ∈ fpX n, ∃ o, h.get? b = some o ∧ ∀ v, o.data ≠ .cell v := by
  obtain ⟨h1, h2, ⟨a, b, h3⟩, h4, h5⟩ := st
  simp only [fpX, List.forall_mem_cons, List.forall_mem_nil, and_true]
  exact ⟨⟨_, h1, fun v q => nomatch q⟩, ⟨_, h2, fun v q => nomatch q⟩, ⟨_, h3, fun v q => nomatch q⟩, noLoc h4 (fun v q => nomatch q), noLoc h5 (fun v q => nomatch q), fun _ z => nomatch z⟩
theorem turnX {P : Program} {w : World} {K : PySem.W.Frag} {elts : List Expr} {kk : Nat} {tpos : Pos} (n : Nat) (x y : Str) (t u : Tok) : Turn P w K (.Tuple elts kk tpos) (ItxX x y) (fpX n) (n + 4) (StX n x y t u) := by
  have G := fun (A : Around) (hh : A.handled = none) => goesX (P := P) (w := w) hh elts kk tpos n x y t u
  have hsub : ∀ b, b ∉ fpX n → b ∉ [n + 4, n + 3, n, n + 1] := fun b hb hc => hb (by
    simp only [fpX, List.mem_cons, List.not_mem_nil, or_false] at hc ⊢
    rcases hc with e | e | e | e <;> simp [e])
  refine ⟨List.mem_cons_self, fun i h st => st.live, fun i h h' st k => (G {} rfl).frame i h h' st k, ?_, ?_, fun A i s Q E st h => wpAny_pyIter_zip st.1 h⟩
  · rintro X rfl rfl rfl hc i pins s σ H E I hf st hg
    refine (G X.A (I.ok.hd hc)).goes i s _ E hg st fun v h' tk hy st' hk _ => ?_
    obtain ⟨T, a, b, ev, hT, ⟨c, s1, ec, ea⟩, ⟨d, s2, ed, eb⟩, ho⟩ := hy
    subst ev ea eb
    have new : ObjOk X.prog X.w (upd H T (.tup [.str ⟨#[c]⟩, .str ⟨#[d]⟩])) h' T (.tup [.str ⟨#[c]⟩, .str ⟨#[d]⟩]) := ⟨by show 2 ≤ sizeLine; decide, _, .cons ⟨s1, rfl⟩ (.cons ⟨s2, rfl⟩ .nil), ho⟩
    refine ⟨.ref T, _, I.turnedNew (t' := tk) (fun b o hb e => hk b o (hsub b hb) e) hf hT new, rfl, ⟨T, c, d, rfl, I.hok.fresh hT, rfl, ec, ed⟩, st', fun b hb => ?_⟩
    obtain ⟨o, eo, _⟩ := st.live b hb
    rw [upd_ne (Nat.ne_of_lt (Nat.lt_of_lt_of_le (Heap.lt_size eo) hT))]
    exact (hf b hb).1
  · rintro X rfl rfl rfl hc i pins s σ H E I hf st hg
    cases (show i = min x.cps.size y.cps.size from hg)
    exact (G X.A (I.ok.hd hc)).stops s (fun s1 => Inv X pins σ H s1) E st fun h' tk hk _ => I.turnedL (t' := tk) (fun b o hb e => hk b o (hsub b hb) e) hf
def iTwoX (ta : TA) : TI := fun σ H R => ta σ H fun vs H1 => ∃ x y, vs = [.str x, .str y] ∧ R (ItxX x y) H1
theorem pi_twoX {X : Cx} {e e2 : Expr} {ta : TA} {p pos tpos : Pos} {elts : List Expr} {kk : Nat} (hg : Gl X "zip") (hm : X.mg "zip" = none) (ha : PA X [e, e2] ta)
    (hst : starEach [e, e2] X.env = (false, eval e X.env) :: starEach [e2] X.env) (hno : (backTo pos (starEach [e2] X.env)).any (·.1) = false) : PI X (.Tuple elts kk tpos) (.Call (.Name "zip" p) [e, e2] [] pos) (iTwoX ta) := .mk fun pins s σ H R I h =>
  Call_ (ld_blt I hg hm PyProof.Rows.boot_zip (PyProof.Rows.callWith_type1 (thn (ha.run pos pins s σ H _ I h) fun us s1 ⟨vs, H1, I1, r1, x, y, ex, q⟩ => by
    subst ex
    obtain ⟨u1, u2, rfl, ⟨t1, e1⟩, ⟨t2, e2⟩⟩ := vals2 r1
    subst e1 e2
    refine zip_begins2 (begins_text x t1) (begins_text y t2) trivial trivial fun h' hz hI hO g1 g2 hsz hk => wpAny_pyIter_zip hz ?_
    refine ⟨_, fpX s1.heap.objs.size, _, ItxX x y, H1, rfl, I1.kept (t' := s1.toks) hk, turnX s1.heap.objs.size x y t1 t2, ⟨hz, hI, ⟨_, _, hO⟩, ⟨_, g1, rfl, rfl⟩, ⟨_, g2, rfl, rfl⟩⟩, fun b hb => ?_, q⟩
    have hle : s1.heap.objs.size ≤ b := by
      simp only [fpX, List.mem_cons, List.not_mem_nil, or_false] at hb
      rcases hb with e | e | e | e | e <;> rw [e] <;> first | exact Nat.le_refl _ | exact Nat.le_add_right _ _
    exact I1.fpOk hle (I1.hok.fresh hle)) hst hno))
end DL

/-! DL9: zip of two texts over data, keyword calls, comprehension over pairs. -/
namespace DL
open PySem PySem.Spec PyProof.Rows L2
section
variable {M : Md} {X : Cx} {k : Nat} {N : List Str} {sc cs : Scope} {δ δ' : Sg} {m : Bool} {Φ Ψ : Da → Prop} {x y : Str} {pos p2 p3 apos kpos : Pos} {e a b o tg it : Expr} {es : List Expr}
theorem chars_len {z : Str} : (chars z).length = z.cps.size := by unfold chars; simp
theorem chars_get {z : Str} {i : Nat} {d : Da} (h : (chars z)[i]? = some d) : ∃ c, z.cps[i]? = some c ∧ d = .str ⟨#[c]⟩ := by
  unfold chars at h
  rw [List.getElem?_map, Array.getElem?_toList] at h
  obtain ⟨c, hc, e⟩ := Option.map_eq_some_iff.mp h
  exact ⟨c, hc, e.symm⟩
theorem di_zipX (S : Sc M X k N sc cs) {elts : List Expr} {kk : Nat} {tpos : Pos} {Φ : List Da → Prop} (hm : M.mg "zip" = none) (hg : glB sc "zip" = true)
    (h : DE X a δ fun d => DE X b δ fun d' => ∃ x y, d = .str x ∧ d' = .str y ∧ Φ (zipD (chars x) (chars y)))
    (hs : starEach [a, b] X.env = (false, eval a X.env) :: starEach [b] X.env := by rfl) (hs2 : starEach [b] X.env = (false, eval b X.env) :: starEach [] X.env := by rfl) (hpl : (backTo pos (starEach [b] X.env)).any (·.1) = false := by rfl) : DI X (.Tuple elts kk tpos) (.Call (.Name "zip" p2) [a, b] [] pos) δ Φ := .mk fun Bs B Hs H σ o R q =>
  WI.of (pi_twoX (by show X.env.scope.names.lookup _ = _; rw [S.hsc]; exact (glB_ok hg).1) (by rw [S.hmg]; exact hm) (pa_cons pe_W (pa_cons pe_W pa_nil hs2) hs) hs hpl) (h Bs B Hs H σ o _ fun d v Hs1 H1 g1 h1 r1 => h1 Bs B Hs1 H1 σ (o.mono g1) _ fun d' v' Hs2 H2 g2 ⟨x, y, e1, e2, p⟩ r2 => by
    subst e1 e2
    cases r1.atom
    cases r2.atom
    have hn : (zipD (chars x) (chars y)).length = min x.cps.size y.cps.size := by rw [zipD_len, chars_len, chars_len]
    have wk : Walk (ItxX x y) (zipD (chars x) (chars y)).length (fun _ => True) (YPair (fun i => (x.cps[i]?).map fun c => V.str ⟨#[c]⟩) (fun i => (y.cps[i]?).map fun c => V.str ⟨#[c]⟩)) := by
      rw [hn]
      refine ⟨fun i _ hi q => hi, fun _ q => rfl, fun i H v H' _ q y => ?_⟩
      obtain ⟨T, c, d, h1, h2, h3, h4, h5⟩ := y
      exact ⟨T, _, _, h1, h2, h3, by dsimp only; rw [h4]; rfl, by dsimp only; rw [h5]; rfl⟩
    refine ⟨x, y, rfl, q _ _ (fun _ => True) _ Hs2 H2 (g1.trans g2) p wk (fun _ _ _ _ => True.intro) fun i d Hs2 H2 v H3 s1 s2 hi hy => ?_⟩
    obtain ⟨T, x', y', rfl, hT, rfl, hx, hy⟩ := hy
    dsimp only at hx hy
    obtain ⟨z, w, hz, hw, rfl⟩ := zipD_get hi
    obtain ⟨c, hc, rfl⟩ := chars_get hz
    obtain ⟨c2, hc2, rfl⟩ := chars_get hw
    rw [hc] at hx
    rw [hc2] at hy
    cases hx
    cases hy
    exact pair_new s2 (.a _) (.a _) hT)
/-- a def that may be called with these keywords behind the positional values -/
structure CalK {α : Type} (M : Md) (k : Nat) (x : Str) (ks : List Str) (ms : List Bool) (args : α → List Da) (pre : α → Prop) (post : α → Da → Prop) : Prop where
  ex : ∃ f fd ps, FnOk M.P M.w M.K M.mg M.base CX0 k f fd ps (SpD M.K ms args pre post) ∧ M.mg x = some (.ref f) ∧ PySem.W.keepIn M.K (.ref f) = true ∧ KBinds M.K fd ps ks (fun us ws => us ++ ws) (fun vs zs => vs ++ zs)
theorem CalK.mono {α : Type} {M : Md} {k j : Nat} {x : Str} {ks : List Str} {ms : List Bool} {args : α → List Da} {pre : α → Prop} {post : α → Da → Prop} (c : CalK M k x ks ms args pre post) (h : k ≤ j) : CalK M j x ks ms args pre post := by
  obtain ⟨f, fd, ps, F, h1, h2, h3⟩ := c.ex
  exact ⟨f, fd, ps, F.mono h, h1, h2, h3⟩
theorem calk_mk {α : Type} {f : Addr} {fd : FuncData} {ps ks : List Str} {ms : List Bool} {args : α → List Da} {pre : α → Prop} {post : α → Da → Prop} (F : FnOk M.P M.w M.K M.mg M.base CX0 k f fd ps (SpD M.K ms args pre post)) (h1 : M.mg x = some (.ref f))
    (h2 : PySem.W.keepIn M.K (.ref f) = true) (h3 : ∀ (s : Shared) (us ws : List Value), M.K.In s.heap → (us ++ ws).length = ps.length → BindsTo s fd ⟨us, ks.zip ws⟩ (ps.zip (us ++ ws))) : CalK M k x ks ms args pre post :=
  ⟨f, fd, ps, F, h1, h2, h3, fun r1 r2 => r1.append r2⟩
/-- f(k = e) -/
theorem de_callK1 {α : Type} {kn : Str} {args : α → List Da} {pre : α → Prop} {post : α → Da → Prop} (S : Sc M X k N sc cs) (c : CalK M k x [kn] [true] args pre post) (hg : glB sc x = true)
    (h : DE X e δ fun d => ∃ a, [d] = args a ∧ pre a ∧ ∀ d, post a d → Φ d) : DM X m (.Call (.Name x p2) [] [⟨some kn, e, kpos⟩] pos) δ Φ := DM.of <| .mk fun Bs B Hs H σ o Q q => by
  obtain ⟨f, fd, ps, F, h1, h2, h3⟩ := c.ex
  obtain ⟨g1, g2, g3⟩ := glB_ok hg
  have F' : FnOk X.prog X.w X.K X.mg X.base CX0 k f fd ps (SpD X.K [true] args pre post) := by rw [S.hP, S.hw, S.hK, S.hmg, S.hb]; exact F
  have h3' : KBinds X.K fd ps [kn] (fun us ws => us ++ ws) (fun vs zs => vs ++ zs) := by rw [S.hK]; exact h3
  have main : PE X (.Call (.Name x p2) [] [⟨some kn, e, kpos⟩] pos) (fun σ H Q => tCons (WE X e) tNil σ H fun zs H2 => SpD X.K [true] args pre post zs H2 Q E0) := by
    refine ⟨fun pins s σ H Q I hq => ?_⟩
    refine wpAny_Call_Name_kw (ld_glob I (by show X.env.scope.names.lookup x = _; rw [S.hsc]; exact g1) (by rw [S.hmg]; exact h1) ?_ g2)
    refine PySem.W.callWith_KW0 (h₀ := X.base) I.ok.mod.kin (by rw [S.hK]; exact h2) rfl (thn ((pk_cons (nm := some kn) (kpos := kpos) pe_W pk_nil).run pos pins s σ H _ I hq) fun ws s2 ⟨zs, H2, I2, rz, q2⟩ => ⟨I2.kIn, ?_⟩)
    exact run_fnk (us := []) (vs := []) F' S.room h3' pass0 I2 .nil rz q2
  refine WE.of main ?_
  refine h Bs B Hs H σ o _ fun d v Hs1 H1 gg ⟨a, ea, pa, k⟩ r => ?_
  refine ⟨a, Hs1, gg.sub, ?_, pa, fun d v Hs' H' g p rd => q d v Hs' H' (gg.trans g) (k d p) rd⟩
  rw [← ea]
  exact .cons r .nil
end
end DL

/-! DL10: a dict comprehension whose keys are tuples, kept by a name. -/
namespace DL
open PySem PySem.Spec PyProof.Rows L2
section
variable {X : Cx}
/-- what is asked of {k: v for tg in it if ..}, keys tuples: D the new dict -/
def tTc (wi : TI) (g : TG) (tt : TT) (tk tv : TE) (vs : List Nat) : TE := fun σ H Q => wi σ H fun J H1 => ∀ D, H1 D = none → ∃ W : Nat → Nat → Hp → Prop, (∃ m, W 0 m (upd H1 D (.dT []))) ∧
  ∀ i m H, W i m H → (J.stop i H ∧ Q (.ref D) H) ∨ (J.go i H ∧ ∃ Z : Hp → Prop, (∀ H', Z H' → ∃ j, j < m ∧ W (i + 1) j H') ∧ ∀ x H', J.yld i H x H' → g x (L2.wipe σ vs) H' fun σ2 H2 => L2.wipe σ2 vs = L2.wipe σ vs ∧ tt σ2 H2 fun c H3 =>
    if c = true then tk σ2 H3 fun y H4 => tv σ2 H4 fun z H5 => ∃ kvs k b, y = .ref b ∧ H5 b = some (.tup (k.map kV)) ∧ H5 D = some (.dT kvs) ∧ kvs.length < sizeLine ∧ Z (upd H5 D (.dT (putK kvs k z))) else Z H3)
/-- an entry laid into a dict with tuple keys -/
theorem put_tup {pins : List (Addr × Obj)} {σ : L2.St} {H : Hp} {s : Shared} {E : Value → Shared → Prop} {D b : Addr} {kvs : List (List Key × V)} {k : List Key} {z : V} {r : Value} {Q : Unit → Shared → Prop} (hu : X.A.units + 1 < cLine) (I : Inv X pins σ H s)
    (hD : H D = some (.dT kvs)) (hb : H b = some (.tup (k.map kV))) (hz : kvs.length < sizeLine) (rz : RelV z r) (q : ∀ s', Inv X pins σ (upd H D (.dT (putK kvs k z))) s' → Q () s') : wpAny (model X.prog X.w) X.A (dictSet D (.ref b) r) Q E s := by
  obtain ⟨hl, hn, xs, rel, dd⟩ := dt_of I.hok hD
  have hlen := Paired.length rel
  have hput : (putK kvs k z).length ≤ sizeLine := Nat.le_trans (length_putK kvs k z) hz
  refine wpAny_dictSet_heap (hsz := by omega) (show (tupleKind (mixKind X.prog X.w)).room X.A from Nat.lt_of_succ_lt hu) (key_of I.hok hb) dd fun h' ⟨o, es, ep, e1, e2, e3, e4, _, e5⟩ sb => q _ ?_
  refine d_write I (by rw [hD]; trivial) sb ⟨o, e1⟩ ⟨hput, hn, _, (rel.put k hb rz).keeps fun c ys ec => ?_, o, es, ep, e1, e2, e3, e4, e5⟩
  rwa [upd_ne (ne_of ec hD fun w => nomatch w)]
theorem tc_core {pins : List (Addr × Obj)} {s : Shared} {σ : L2.St} {H : Hp} {Q : VK} {kx vx tg it : Expr} {ifs : List Expr} {scope : Scope} {own : List (Str × Nat)} {pos pos' : Pos} {wi : TI} {g : TG} {tt : TT} {tk tv : TE} {use : Option (Value → Sem Unit)} {Qf : Value → Shared → Prop}
    (hu : X.A.units + 1 < cLine) (hc : X.calm = true) (hN : X.N.Nodup) (I : Inv X pins σ H s) (hi : PI X tg it wi) (ok : BlkOk X.N X.env.scope scope own)
    (hg : ∀ (s : Shared) (H : Hp) (C : Addr) (cl : List (Str × Addr)) (fp : List Addr), PG (X.blk s H scope (compEnvC scope cl C X.env) fp) tg g)
    (ht : ∀ (s : Shared) (H : Hp) (C : Addr) (cl : List (Str × Addr)) (fp : List Addr), PTs (X.blk s H scope (compEnvC scope cl C X.env) fp) ifs tt)
    (hk : ∀ (s : Shared) (H : Hp) (C : Addr) (cl : List (Str × Addr)) (fp : List Addr), PE (X.blk s H scope (compEnvC scope cl C X.env) fp) kx tk)
    (he : ∀ (s : Shared) (H : Hp) (C : Addr) (cl : List (Str × Addr)) (fp : List Addr), PE (X.blk s H scope (compEnvC scope cl C X.env) fp) vx tv)
    (hs : ∀ x, foldedSetIterable it X.env x = pure x) (h : tTc wi g tt tk tv (own.map (·.2)) σ H Q)
    (fin : ∀ D C s' m H', Inv X pins σ H' s' → Q (.ref D) H' → s'.heap.Ns C m → FpOk X pins H' C → compPost (model X.prog X.w) X.A X.xe use Qf (.ref D) C (.ok .next) s') :
    wpAny (model X.prog X.w) X.A (comprehension (.DictComp kx vx [⟨tg, it, ifs, 0⟩] scope pos) scope X.env pos' newDict false (eval it X.env) use) Qf X.xe s := by
  have free : ∀ y ∈ scope.names, y.2 = .free → ∃ c, X.env.cells.lookup y.1 = some c := fun y hy e => I.ok.has _ (ok.free y hy e)
  refine wpAny_comprehension_free (use := use) rfl hs (closure_ok free) ok.kind (fun y hy e => (ok.uniq y hy).trans (congrArg some e)) (thn (hi.run pins s σ H _ I h) fun xv s1 hx => thn hx fun itv s2 h2 => ?_)
  obtain ⟨itA, fp, tn, J, H2, rfl, I2, T, st2, f2, q⟩ := h2
  refine wpAny_newObj_type (newEnv_comp ?_)
  -- the new dict stands at the heap's end
  obtain ⟨D, hD⟩ : ∃ D, D = s2.heap.objs.size := ⟨_, rfl⟩
  rw [← hD]
  have hDn : H2 D = none := I2.hok.fresh (hD ▸ Nat.le_refl _)
  obtain ⟨W, ⟨m0, w0⟩, turn⟩ := q D hDn
  obtain ⟨s3, hs3⟩ : ∃ s3 : Shared, s3 = { s2 with heap := s2.heap.push { cls := .type "dict", data := .dict #[] } } := ⟨_, rfl⟩
  have grow : ∀ b o, s2.heap.get? b = some o → s3.heap.get? b = some o := fun b o e => by rw [hs3]; exact Heap.get?_push_of_some _ e
  have I3 : Inv X pins σ (upd H2 D (.dT [])) s3 := by
    have new := dt_empty (P := X.prog) (w := X.w) (H := upd H2 D (.dT [])) s2.heap I2.big
    rw [← hD] at new
    rw [hs3]
    exact I2.laid (t' := s2.toks) (fun b o e => Heap.get?_push_of_some _ e) (hD ▸ Nat.le_refl _) new
  have hsz : s3.heap.objs.size = s2.heap.objs.size + 1 := by rw [hs3]; exact Heap.size_push ..
  have f3 : ∀ b ∈ fp, FpOk X pins (upd H2 D (.dT [])) b ∧ b < s3.heap.objs.size := fun b hb => by
    obtain ⟨o, e, _⟩ := T.obj _ _ st2 b hb
    have hlt := Heap.lt_size e
    refine ⟨⟨?_, (f2 b hb).2⟩, by rw [hsz]; exact Nat.lt_succ_of_lt hlt⟩
    rw [upd_ne (by rw [hD]; exact Nat.ne_of_lt hlt)]
    exact (f2 b hb).1
  have st3 : tn 0 s3.heap := T.keep _ _ _ st2 fun b _ o e => grow b o e
  have I4 := block_start I3 ok hN f3
  obtain ⟨cl, hcl⟩ : ∃ cl, cl = cellsFrom (s3.heap.objs.size + 1) scope.names (cloFrom X.env.cells scope.names []) := ⟨_, rfl⟩
  rw [← hcl] at I4
  have eD : s2.heap.push { cls := .type "dict", data := .dict #[] } = s3.heap := by rw [hs3]
  obtain ⟨s4, hs4⟩ : ∃ s4 : Shared, s4 = { s3 with heap := pushCells (s3.heap.push { cls := .type "dict", data := .dict #[] }) scope.names } := ⟨_, rfl⟩
  have goal : codeAny (model X.prog X.w) X.A (.compStart (.DictComp kx vx [⟨tg, it, ifs, 0⟩] scope pos) 0 (.ref itA) (.ref D) (compEnvC scope cl s3.heap.objs.size X.env)) (compPost (model X.prog X.w) X.A X.xe use Qf (.ref D) s3.heap.objs.size) s4 := by
    rw [← hs4] at I4
    have st4 : tn 0 s4.heap := T.keep _ _ _ st3 fun b _ o e => by rw [hs4]; exact pushCells_keeps _ _ _ _ (Heap.get?_push_of_some _ e)
    have pg := hg s3 (upd H2 D (.dT [])) s3.heap.objs.size cl fp
    have pt := ht s3 (upd H2 D (.dT [])) s3.heap.objs.size cl fp
    have pk := hk s3 (upd H2 D (.dT [])) s3.heap.objs.size cl fp
    have pv := he s3 (upd H2 D (.dT [])) s3.heap.objs.size cl fp
    obtain ⟨ce, hce⟩ : ∃ ce, ce = compEnvC scope cl s3.heap.objs.size X.env := ⟨_, rfl⟩
    rw [← hce] at I4 pg pt pk pv ⊢
    have cL : ce.locals = s3.heap.objs.size := by rw [hce]; rfl
    have n3 : ∀ b ∈ fp, (upd H2 D (.dT [])) b = none := fun b hb => (f3 b hb).1.1
    obtain ⟨H3, hH3⟩ : ∃ H3, H3 = upd H2 D (.dT []) := ⟨_, rfl⟩
    rw [← hH3] at I3 I4 pg pt pk pv w0 n3 f3
    have stat : ∀ {σ' : L2.St} {H' : Hp} {s' : Shared}, Inv (X.blk s3 H3 scope ce fp) [] σ' H' s' → (∀ b ∈ fp, H' b = none) → ∀ b ∈ fp, FpOk (X.blk s3 H3 scope ce fp) [] H' b := fun {σ' H' s'} J' hn b hb =>
      ⟨hn b hb, (J'.ok.exf b hb).1, J'.ok.exfs b hb, .inl hb, fun x c e => (J'.ok.exf b hb).2 x c e, fun p hp => by
        have hp : p ∈ ([] : List (Addr × Obj)) ++ [] := hp
        cases hp⟩
    let G : Nat → Shared → Prop := fun n s' => ∃ i H', Inv (X.blk s3 H3 scope ce fp) [] (L2.wipe σ (own.map (·.2))) H' s' ∧ tn i s'.heap ∧ (∀ b ∈ fp, H' b = none) ∧ W i n H'
    have loop : codeAny (model X.prog X.w) X.A (.compLoop (.DictComp kx vx [⟨tg, it, ifs, 0⟩] scope pos) 0 (.ref itA) (.ref D) ce) (compPost (model X.prog X.w) X.A X.xe use Qf (.ref D) s3.heap.objs.size) s4 := by
      refine compLoop_anyD G ?_ m0 ⟨0, H3, I4, st4, n3, w0⟩
      rintro n s5 ⟨i, H5, I5, st5, n5, w5⟩
      rcases turn i n H5 w5 with ⟨stop, qq⟩ | ⟨go, Z, hZ, step⟩
      · refine thnF (T.done (X.blk s3 H3 scope ce fp) rfl rfl rfl hc i [] s5 _ H5 (fun _ _ => False) I5 (stat I5 n5) st5 stop) fun r s6 ⟨hr, I6⟩ => ?_
        subst hr
        have fpk : ∀ b ∈ fp, _ := fun b hb => (f3 b hb).1.2
        have I7 : Inv X pins σ H5 s6 := I3.call' (ch := fp) I6.os I6.base I6.hok I6.bare fun b hb => ⟨(fpk b hb).2.2.1, (fpk b hb).1, (fpk b hb).2.2.2.1, (fpk b hb).2.2.2.2⟩
        have nC : H5 s3.heap.objs.size = none := by rw [← cL]; exact I6.free
        obtain ⟨m, hn, _⟩ := I6.loc
        have hn : s6.heap.Ns s3.heap.objs.size m := by rw [← cL]; exact hn
        exact fin D s3.heap.objs.size s6 m H5 I7 qq hn (I3.fpOk (Nat.le_refl _) nC)
      · refine thnF (T.item (X.blk s3 H3 scope ce fp) rfl rfl rfl hc i [] s5 _ H5 (fun _ _ => False) I5 (stat I5 n5) st5 go) fun r s6 ⟨u, hr, h6⟩ => ?_
        subst hr
        refine thnF h6 fun _ s7 ⟨x, H7, I7, r7, y7, st7, n7⟩ => ?_
        refine thnF (pg.run _ s7 _ H7 x u _ (I7.pinned (stat I7 n7) (T.obj _ _ st7)) r7 (step x H7 y7)) fun _ s8 ⟨σ8, H8, I8, hw8, q8⟩ => ?_
        refine thnF (pt.run _ s8 σ8 H8 _ I8 q8) fun c s9 ⟨H9, I9, q9⟩ => ?_
        have next : ∀ {s' : Shared} {H' : Hp}, Inv (X.blk s3 H3 scope ce fp) ([] ++ pinsAt fp s7.heap) σ8 H' s' → Z H' → ∃ m, m < n ∧ G m s' := fun {s' H'} I' nx => by
          obtain ⟨j, hj, w'⟩ := hZ H' nx
          have keep : ∀ b ∈ fp, ∀ o, s7.heap.get? b = some o → s'.heap.get? b = some o ∧ H' b = none := fun b hb o e => by
            have z := I'.pin (b, o) (List.mem_append_right _ (List.mem_append_right _ (mem_pinsAt hb e)))
            exact ⟨z.1, z.2.1⟩
          have hl : (L2.wipe σ (own.map (·.2))).length = σ8.length := by rw [← hw8, wipe_length]
          refine ⟨j, hj, i + 1, H', (I'.unpinned (pins := [])).weak hl (fun a v e => (wipe_some (by rw [hw8]; exact e)).1), T.keep _ _ _ st7 fun b hb o e => (keep b hb o e).1, fun b hb => ?_, w'⟩
          obtain ⟨o, e, _⟩ := T.obj _ _ st7 b hb
          exact (keep b hb o e).2
        cases c with
        | false => exact next I9 (by simpa using q9)
        | true =>
          simp only [if_true] at q9
          refine iteT (thnF (pk.run _ s9 σ8 H9 _ I9 q9) fun y s10 ⟨yk, H10, I10, r10, q10⟩ => thnF (pv.run _ s10 σ8 H10 _ I10 q10) fun z s11 ⟨yv, H11, I11, r11, kvs, k, b, ek, hb, hD11, hz11, nx⟩ => ?_)
          subst ek
          cases r10
          exact put_tup (X := X.blk s3 H3 scope ce fp) hu I11 hD11 hb hz11 r11 fun s12 I12 => next I12 nx
    exact codeAny_compStart_dict loop (T.self X.A 0 _ _ _ st4 loop)
  rw [hs4, hs3] at goal
  rw [hcl, hs3] at goal
  exact goal
/-- y = {k: v for ..} -/
theorem ps_setTc {i : Nat} {y : Str} {py : Pos} {kx vx tg it : Expr} {ifs : List Expr} {scope : Scope} {own : List (Str × Nat)} {pos spos : Pos} {wi : TI} {g : TG} {tt : TT} {tk tv : TE} (hu : X.A.units + 1 < cLine) (hc : X.calm = true) (hN : X.N.Nodup) (hy : X.N[i]? = some y)
    (hyl : X.env.scope.names.lookup y = some .local) (hsw : swapsWith (.DictComp kx vx [⟨tg, it, ifs, 0⟩] scope pos) (some (.Name y py)) spos.line X.env = pure true) (hi : PI X tg it wi) (ok : BlkOk X.N X.env.scope scope own)
    (hg : ∀ (s : Shared) (H : Hp) (C : Addr) (cl : List (Str × Addr)) (fp : List Addr), PG (X.blk s H scope (compEnvC scope cl C X.env) fp) tg g)
    (ht : ∀ (s : Shared) (H : Hp) (C : Addr) (cl : List (Str × Addr)) (fp : List Addr), PTs (X.blk s H scope (compEnvC scope cl C X.env) fp) ifs tt)
    (hk : ∀ (s : Shared) (H : Hp) (C : Addr) (cl : List (Str × Addr)) (fp : List Addr), PE (X.blk s H scope (compEnvC scope cl C X.env) fp) kx tk)
    (he : ∀ (s : Shared) (H : Hp) (C : Addr) (cl : List (Str × Addr)) (fp : List Addr), PE (X.blk s H scope (compEnvC scope cl C X.env) fp) vx tv) (hs : ∀ x, foldedSetIterable it X.env x = pure x) :
    PS X (.Assign [.Name y py] (.DictComp kx vx [⟨tg, it, ifs, 0⟩] scope pos) spos) (tAsg (tTc wi g tt tk tv (own.map (·.2))) (gName i)) := .mk fun pins s σ H D I h => by
  rw [exec_Assign_Name_used _ _ _ _ hsw]
  have h : tTc wi g tt tk tv (own.map (·.2)) σ H (fun x H1 => gName i x σ H1 D.nx) := h
  have run := tc_core (pos' := firstIterPos [⟨tg, it, ifs, 0⟩] pos) (pos := pos) (use := some (assign (.Name y py) X.env)) (Qf := fun _ s' => SP X pins D .next s') hu hc hN I hi ok hg ht hk he hs h fun L C s' m H' I' q hn f => by
    refine wpAny_assign_Name (store_ok2 (v := V.ref L) I' hN hy (.inl hyl) rfl (fun s2 I2 ⟨a, sb, ha⟩ => ?_) (.inr hyl))
    obtain ⟨f0, f1, f2, f3, f4, f5⟩ := f
    have haC : C ≠ a := ha.elim (fun z => z ▸ f1) fun z e => f4 y a z e.symm
    exact ⟨m, hn.sameBut sb haC, fun h3 sb3 => ⟨_, H', I2.turned (t' := s2.toks) (fun b o hb e => (sb3.2 b hb).trans e) f0 f1 f3 f4 f5, q⟩⟩
  refine wpAny_bind (wpAny_standAt (wpAny_bind ?_))
  exact wpAny_bind (thn run fun _ s' hq => wpAny_pure (wpAny_pure hq))
end
end DL

/-! DL11: dict comprehensions with tuple keys over data; lists unpacked; range downwards; a pair with a new dict. -/
namespace DL
open PySem PySem.Spec PyProof.Rows L2
/-- an own object that stands, taken into a slot -/
theorem Ok.adopt {K : PySem.W.Frag} {Bs B Hs H : Hp} {σ : L2.St} {δ : Sg} (o : Ok K Bs B Hs H σ δ) (i : Nat) {s0 : SD} {p : Addr} (hb : B p = none) (np : ∀ (j : Nat) (s : SD) (q : Addr), δ[j]? = some (some s) → s.own = true → σ[j]? = some (some (.ref q)) → q ≠ p)
    (r : SlotOk K B Hs H s0 (.ref p)) : Ok K Bs B Hs H (σ.set i (some (.ref p))) (δ.set i (some s0)) := by
  refine ⟨o.go, fun j s e => ?_, by simp [o.len], fun j s q e w e2 => ?_, fun j k s t q e1 e2 q1 q2 e3 e4 => ?_⟩
  · rcases set_some_key e with ⟨hj, e⟩ | ⟨rfl, rfl, hl⟩
    · rw [List.getElem?_set_ne (Ne.symm hj)]
      exact o.slot j s e
    · exact ⟨_, by rw [List.getElem?_set_self (by rw [o.len]; exact hl)], r⟩
  · rcases set_some_key e with ⟨hj, e⟩ | ⟨rfl, rfl, hl⟩
    · exact o.fr j s q e w (by rwa [List.getElem?_set_ne (Ne.symm hj)] at e2)
    · rw [List.getElem?_set_self (by rw [o.len]; exact hl)] at e2
      cases e2
      exact hb
  · rcases set_some_key e1 with ⟨hj, f1⟩ | ⟨rfl, rfl, hl⟩
    · rw [List.getElem?_set_ne (Ne.symm hj)] at e3
      rcases set_some_key e2 with ⟨hk, e2⟩ | ⟨rfl, rfl, hl⟩
      · exact o.ap j k s t q f1 e2 q1 q2 e3 (by rwa [List.getElem?_set_ne (Ne.symm hk)] at e4)
      · rw [List.getElem?_set_self (by rw [o.len]; exact hl)] at e4
        cases e4
        exact absurd rfl (np _ _ _ f1 q1 e3)
    · rw [List.getElem?_set_self (by rw [o.len]; exact hl)] at e3
      cases e3
      rcases set_some_key e2 with ⟨hk, e2⟩ | ⟨rfl, rfl, hl⟩
      · exact absurd rfl (np _ _ _ e2 q2 (by rwa [List.getElem?_set_ne (Ne.symm hk)] at e4))
      · rfl
section
variable {M : Md} {X : Cx} {k : Nat} {N : List Str} {sc cs : Scope} {δ δ' : Sg} {m : Bool} {Φ Ψ : Da → Prop} {x y : Str} {pos p2 p3 apos kpos : Pos} {e a b c o tg it kx vx : Expr} {es : List Expr} {sts : List Stmt} {nx bk ct : Sg → Prop} {rt : Da → Prop}
def DcD (M : Md) (X : Cx) (k : Nat) (N : List Str) (sc : Scope) (scope : Scope) (tg kx vx : Expr) (ifs : List Expr) (os : List Str) (δ : Sg) (ds : List Da) (Φ : List (List Key × V) → Prop) : Prop :=
  ∃ δw, Wp N os δ δw ∧ ds.length ≤ 1000000 ∧ ∃ P : Nat → List (List Key × V) → Prop, P 0 [] ∧
    (∀ X', Sc M X' k N (relS scope sc) scope → ∀ i d acc, ds[i]? = some d → P i acc → DG X' tg os d δw fun δ2 => ∀ X', Sc M X' k N (relS scope sc) scope → DTs X' ifs δ2 fun c =>
      (c = true → ∀ X', Sc M X' k N (relS scope sc) scope → DE X' kx δ2 fun y => ∀ X', Sc M X' k N (relS scope sc) scope → DE X' vx δ2 fun z => ∃ q v, y = .tup ((q.map kV).map Da.a) ∧ z = .a v ∧ P (i + 1) (putK acc q v)) ∧ (c = false → P (i + 1) acc)) ∧
    ∀ acc, acc.length ≤ ds.length → P ds.length acc → Φ acc
theorem tc_it {J : It} {n : Nat} {G : Hp → Prop} {Y : Nat → Hp → V → Hp → Prop} {g : TG} {tt : TT} {tk tv : TE} {vs : List Nat} {σ : L2.St} {H1 : Hp} {D : Addr} {Qd : Hp → Prop} (wk : Walk J n G Y) (Pv : Nat → Hp → Prop) (h0 : Pv 0 (upd H1 D (.dT []))) (hq : ∀ i H, i ≤ n → Pv i H → G H)
    (hs : ∀ i x H H', i < n → Pv i H → Y i H x H' → g x (L2.wipe σ vs) H' fun σ2 H2 => L2.wipe σ2 vs = L2.wipe σ vs ∧ tt σ2 H2 fun c H3 =>
      if c = true then tk σ2 H3 fun y H4 => tv σ2 H4 fun z H5 => ∃ kvs k b, y = .ref b ∧ H5 b = some (.tup (k.map kV)) ∧ H5 D = some (.dT kvs) ∧ kvs.length < sizeLine ∧ Pv (i + 1) (upd H5 D (.dT (putK kvs k z))) else Pv (i + 1) H3) (hd : ∀ H, Pv n H → Qd H) :
    ∃ W : Nat → Nat → Hp → Prop, (∃ m, W 0 m (upd H1 D (.dT []))) ∧ ∀ i m H, W i m H → (J.stop i H ∧ Qd H) ∨ (J.go i H ∧ ∃ Z : Hp → Prop, (∀ H', Z H' → ∃ j, j < m ∧ W (i + 1) j H') ∧ ∀ x H', J.yld i H x H' → g x (L2.wipe σ vs) H' fun σ2 H2 => L2.wipe σ2 vs = L2.wipe σ vs ∧ tt σ2 H2 fun c H3 =>
      if c = true then tk σ2 H3 fun y H4 => tv σ2 H4 fun z H5 => ∃ kvs k b, y = .ref b ∧ H5 b = some (.tup (k.map kV)) ∧ H5 D = some (.dT kvs) ∧ kvs.length < sizeLine ∧ Z (upd H5 D (.dT (putK kvs k z))) else Z H3) := by
  refine ⟨fun i m H => m = n - i ∧ i ≤ n ∧ Pv i H, ⟨n, by simp, Nat.zero_le _, h0⟩, ?_⟩
  rintro i m H ⟨rfl, hi, p⟩
  by_cases hlt : i < n
  · exact .inr ⟨wk.goes i H hlt (hq i H hi p), Pv (i + 1), fun H' p' => ⟨n - (i + 1), by omega, rfl, hlt, p'⟩, fun x H' y => hs i x H H' hlt p (wk.yields i H x H' hlt (hq i H hi p) y)⟩
  · obtain rfl : i = n := by omega
    exact .inl ⟨wk.stops H (hq i H hi p), hd H p⟩
theorem put_len {kvs : List (List Key × V)} {q : List Key} {v : V} : (putK kvs q v).length ≤ kvs.length + 1 := length_putK kvs q v
/-- y = {k: v for ..}, keys tuples -/
theorem ds_setTc (S : Sc M X k N sc cs) {scope : Scope} {ifs : List Expr} {os : List Str} {py lp : Pos} (h : DI X tg it δ fun ds => DcD M X k N sc scope tg kx vx ifs os δ ds fun l => ∃ δ', Ss N δ y (some (.ot l)) δ' ∧ nx δ') (hk : blkB N sc scope os = true)
    (hy : (sc.names.lookup y == some .local && (py.line == lp.line) && !(scope.names.any fun (n, k) => n == y && (k == .local || k == .cell))) = true) (hN : N.contains y = true) (hs : ∀ x, foldedSetIterable it X.env x = pure x := by intro _; rfl) :
    DS X (.Assign [.Name y py] (.DictComp kx vx [⟨tg, it, ifs, 0⟩] scope lp) pos) δ nx rt bk ct := .mk fun Bs B Hs H σ o D f => by
  have hu : X.A.units + 1 < cLine := by have := S.room.units; omega
  have ok : BlkOk X.N X.env.scope scope (ownOf N os) := by rw [S.n, S.hsc]; exact blkOk_by hk
  have nd := S.nd
  simp only [Bool.and_eq_true, beq_iff_eq, Bool.not_eq_true'] at hy
  obtain ⟨⟨h1, h2⟩, h3⟩ := hy
  intro pins s I
  obtain ⟨i, hi⟩ : ∃ i : Nat, N[i]? = some y := List.mem_iff_getElem?.mp (by simpa using hN)
  have hkd : X.env.scope.kind = .function := by rw [S.hsc]; exact S.kind
  have sw : swapsWith (.DictComp kx vx [⟨tg, it, ifs, 0⟩] scope lp) (some (.Name y py)) pos.line X.env = pure true := by
    have ky : X.env.kindOf y = some .local := by show X.env.scope.names.lookup y = _; rw [S.hsc]; exact h1
    have hb : X.env.blockKind = .function := by unfold Env.blockKind; rw [hkd]; rfl
    unfold swapsWith
    simp only [hb, ky, h3, Expr.pos, h2, beq_self_eq_true]
    rfl
  refine WS.of (ps_setTc (i := i) hu S.calm (by rw [S.n]; exact nd) (by rw [S.n]; exact hi) (by rw [S.hsc]; exact h1) sw pi_W ok pgb_W ptb_W peb_W peb_W hs) ?_ pins s I
  refine h Bs B Hs H σ o _ fun ds J G Y Hs1 H1 g1 ⟨δw, hw, hz, P, p0, step, fin⟩ wk hG hY D' hD => ?_
  have oD : ∀ (i : Nat) (s : SD) (q : Addr), δ[i]? = some (some s) → s.own = true → σ[i]? = some (some (.ref q)) → q ≠ D' := fun i s q e w h z => (o.mono g1).ownAt e w h (by rw [z]; exact hD)
  have hD0 : H D' = none := g1.hh.free hD
  have hB : B D' = none := o.go.hh.free hD0
  refine tc_it wk (fun i H2 => ∃ Hs2 acc, Go Hs H Hs2 H2 ∧ Same Hs1 Hs2 ∧ Ok X.K Bs B Hs2 H2 σ δ ∧ Hs2 D' = none ∧ H2 D' = some (.dT acc) ∧ acc.length ≤ i ∧ i ≤ ds.length ∧ P i acc) ?_ ?_ ?_ ?_
  · exact ⟨Hs1, [], g1.trans (Go.own g1.sub hD), Same.refl _, (o.mono g1).mono (Go.own g1.sub hD), g1.sub.free hD, upd_same, Nat.le_refl _, Nat.zero_le _, p0⟩
  · rintro i H2 hi ⟨Hs2, acc, g2, s2, o2, _⟩
    exact hG Hs2 H2 s2 o2.sub
  · rintro i x H2 H3 hi ⟨Hs2, acc, g2, s2, o2, hDs, hDv, hl, _, pi⟩ hy s H0 C cl fp
    intro pins s' u I r
    obtain ⟨d, hd⟩ : ∃ d, ds[i]? = some d := ⟨ds[i], by simp [hi]⟩
    obtain ⟨Hs3, g3, rd⟩ := hY i d Hs2 H2 x H3 s2 o2.sub hd hy
    have hsl : σ.length = N.length := by
      have := I.len
      rw [wipe_length] at this
      rw [this]
      exact congrArg List.length S.n
    have nDs : ∀ {Hs' H' : Hp}, Go Hs2 H2 Hs' H' → Hs' D' = none := fun g => g.no D' (by rw [hDv]; exact fun z => nomatch z) hDs
    refine step (X.blk s H0 scope (compEnvC scope cl C X.env) fp) (S.blk ok.kind) i d acc hd pi Bs B Hs3 H3 _ x ((o2.mono g3).wipe nd hw) rd _ (fun δ2 σ2 Hs4 H4 o4 g4 kp ht => ?_) pins s' u I r
    refine ⟨wipe_keep nd hsl (by have kp' : Keep X.N os _ σ2 := kp; rw [S.n] at kp'; exact kp') fun _ z => z, fun s H0 C cl fp pins s' I => ?_⟩
    refine ht (X.blk s H0 scope (compEnvC scope cl C X.env) fp) (S.blk ok.kind) Bs B Hs4 H4 σ2 o4 _ (fun c Hs5 H5 g5 p5 => ?_) pins s' I
    have g35 := (g3.trans g4).trans g5
    cases c with
    | false => exact iteF ⟨Hs5, acc, g2.trans g35, s2.trans g35.ss, o2.mono g35, nDs g35, g35.hh _ _ hDv, by omega, by omega, p5.2 rfl⟩
    | true =>
      refine iteT fun s H0 C cl fp pins s' I => ?_
      have o5 := o4.mono g5
      refine p5.1 rfl (X.blk s H0 scope (compEnvC scope cl C X.env) fp) (S.blk ok.kind) Bs B Hs5 H5 σ2 o5 _ (fun y v Hs6 H6 g6 p6 r6 => ?_) pins s' I
      intro s H0 C cl fp pins s' I
      refine p6 (X.blk s H0 scope (compEnvC scope cl C X.env) fp) (S.blk ok.kind) Bs B Hs6 H6 σ2 (o5.mono g6) _ (fun z w Hs7 H7 g7 ⟨q, vw, ey, ez, p7⟩ r7 => ?_) pins s' I
      subst ey
      have ew : w = vw := by subst ez; exact r7.atom
      subst ew
      obtain ⟨t, ts, rfl, hts, rts⟩ := r6.tup_inv
      rw [rts.atoms] at hts
      have g37 := (g35.trans g6).trans g7
      have e2 : sizeLine = 16777216 := sizeLine_eq
      have e3 := put_len (kvs := acc) (q := q) (v := w)
      exact ⟨acc, q, t, rfl, g7.hh _ _ (g6.sub.trans (Same.refl _) _ _ hts), g37.hh _ _ hDv, by omega, Hs7, putK acc q w, (g2.trans g37).mut hD0 (nDs g37), s2.trans g37.ss, (o2.mono g37).other (nDs g37) hB oD, nDs g37, upd_same, by omega, by omega, p7⟩
  · rintro H2 ⟨Hs2, acc, g2, s2, o2, hDs, hDv, hl, _, pi⟩
    obtain ⟨δ', hd, p⟩ := fin acc hl pi
    obtain ⟨j, h5, rfl⟩ := hd.at
    obtain rfl : i = j := nodup_ix S.nd hi h5
    exact f.nx _ _ Hs2 H2 (o2.adopt i (s0 := .ot acc) hB oD ⟨D', rfl, hDs, hDv⟩) g2.ss p
/-! ### range downwards, lists unpacked -/
def downD (hi : Int) (n : Nat) : List Da := (List.range n).map fun (i : Nat) => Da.int (hi - (i : Int))
theorem downD_len {hi : Int} {n : Nat} : (downD hi n).length = n := by simp [downD]
theorem downD_get {hi : Int} {n i : Nat} {d : Da} (h : (downD hi n)[i]? = some d) : i < n ∧ d = .int (hi - (i : Int)) := by
  unfold downD at h
  rw [List.getElem?_map] at h
  obtain ⟨j, hj, rfl⟩ := Option.map_eq_some_iff.mp h
  obtain ⟨h1, h2⟩ := List.getElem?_eq_some_iff.mp hj
  rw [List.getElem_range] at h2
  subst h2
  exact ⟨by simpa using h1, rfl⟩
/-- range(a, b, -1) -/
theorem di_down (S : Sc M X k N sc cs) {k2 : Nat} {q1 q2 : Pos} {Φ : List Da → Prop} (hm : M.mg "range" = none) (hg : glB sc "range" = true) (h : DE X a δ fun d => DE X b δ fun d' => ∃ i j : Int, d = .int i ∧ d' = .int j ∧ (-(2 ^ 62) ≤ i ∧ i < 2 ^ 62 ∧ -(2 ^ 62) ≤ j ∧ j < 2 ^ 62) ∧ Φ (downD i (i - j).toNat))
    (hs : starEach [a, b, .UnaryOp .USub (.Constant (.int 1) k2 q1) q2] X.env = (false, eval a X.env) :: starEach [b, .UnaryOp .USub (.Constant (.int 1) k2 q1) q2] X.env := by rfl)
    (hs2 : starEach [b, .UnaryOp .USub (.Constant (.int 1) k2 q1) q2] X.env = (false, eval b X.env) :: starEach [.UnaryOp .USub (.Constant (.int 1) k2 q1) q2] X.env := by rfl)
    (hpl : (backTo pos (starEach [b, .UnaryOp .USub (.Constant (.int 1) k2 q1) q2] X.env)).any (·.1) = false := by rfl) :
    DI X tg (.Call (.Name "range" p2) [a, b, .UnaryOp .USub (.Constant (.int 1) k2 q1) q2] [] pos) δ Φ := .mk fun Bs B Hs H σ o R q =>
  WI.of (pi_range3 (by show X.env.scope.names.lookup _ = _; rw [S.hsc]; exact (glB_ok hg).1) (by rw [S.hmg]; exact hm) (pa_cons pe_W (pa_cons pe_W (pa_cons (pe_un un_neg pe_int) pa_nil) hs2) hs) hs hpl) (h Bs B Hs H σ o _ fun d v Hs1 H1 g1 h1 r1 => h1 Bs B Hs1 H1 σ (o.mono g1) _ fun d' v' Hs2 H2 g2 ⟨i, j, e1, e2, bd, p⟩ r2 => by
    subst e1 e2
    cases r1.atom
    cases r2.atom
    refine ⟨1, rfl, i, j, -1, (i - j).toNat, rfl, RgC.neg bd.1 bd.2.1 bd.2.2.1 bd.2.2.2, q _ _ (fun _ => True) _ Hs2 H2 (g1.trans g2) p (by rw [downD_len]; exact walk_rangeC) (fun _ _ _ _ => True.intro) fun i d Hs2 H2 v H3 s1 s2 hi hy => ?_⟩
    obtain ⟨rfl, rfl⟩ := hy
    obtain ⟨_, rfl⟩ := downD_get hi
    refine ⟨Hs2, Go.refl s2, ?_⟩
    have key : ∀ (z : Int) (n : Nat), Rp X.K Hs2 (.int (z - (n : Int))) (.int (z + (n : Int) * -1)) := fun z n => by
      rw [show z + (n : Int) * -1 = z - (n : Int) by omega]
      exact .a _
    exact key _ _)
theorem dg_lst (S : Sc M X k N sc cs) {nm : List Str} {ds : List Da} {j : Nat} {Φ : Sg → Prop} (h : DGs X es nm ds δ Φ) (hn : (assignEach es X.env).length = ds.length := by rfl) (hst : (assignEach es X.env).findIdx? (·.1) = none := by rfl) : DG X (.Tuple es j pos) nm (.lst ds) δ Φ := .mk fun Bs B Hs H σ v o r Q q => by
  obtain ⟨a, vs, rfl, ha, ra⟩ := r.lst_inv
  exact WG.of (pg_lst S.calm pgs_W hn hst) ⟨a, vs, rfl, .of (o.sub _ _ ha), by rw [ra.len], h Bs B Hs H σ vs o ra Q q⟩
/-! ### min(some, default=None) -/
def ominI : List Int → Option Int
  | [] => none
  | n :: r => some (r.foldl min n)
def odV : Option Int → V
  | none => .non
  | some i => .int i
theorem readsInts {h : Heap} : ∀ {ns : List Int} {its : List Value}, Vals (ns.map V.int) its → ReadsAll h its (ns.map PyData.int) []
  | [], _, r => by cases r; exact .nil
  | n :: ns, _, r => by
    cases r with
    | cons r t =>
      obtain ⟨t1, rfl⟩ := r
      exact .cons (.int n t1) (readsInts t)
theorem depInts : ∀ ns : List Int, PyData.depthAll (ns.map PyData.int) ≤ 1
  | [] => by unfold PyData.depthAll; simp
  | n :: ns => by
    have := depInts ns
    simp only [PyData.depthAll, List.map_cons, PyData.depth]
    omega
theorem call_minD (S : Sc M X k N sc cs) : CallRK X (.builtin "min") ["default"] (fun xs zs H Q => ∃ a ns, xs = [.ref a] ∧ zs = [.non] ∧ SqL X.K H a (ns.map V.int) ∧ Q (odV (ominI ns)) H) := by
  intro pins s σ H xs zs us ws Q I rx rz h
  obtain ⟨a, ns, rfl, rfl, hq, q⟩ := h
  cases rx with
  | cons r t =>
    cases t
    cases r
    cases rz with
    | cons r2 t2 =>
      cases t2
      cases r2
      obtain ⟨its, rv, p, _⟩ := I.list hq
      have hu : X.A.units + 64 < cLine := S.room.units
      have hd := depInts ns
      refine PySem.W.min_list_default (I.ok.hd S.calm) p.isList (readsInts rv) ⟨fun x hx y hy => ?_, fun x hx => ?_⟩ (by omega) (fun e h' tk kp => ?_) fun y ys i v h' tk bs e hv hr kp => ?_
      · obtain ⟨i, _, rfl⟩ := List.mem_map.mp hx
        obtain ⟨j, _, rfl⟩ := List.mem_map.mp hy
        rfl
      · obtain ⟨i, _, rfl⟩ := List.mem_map.mp hx
        exact fun z => nomatch z
      · cases ns with
        | nil => exact ⟨.non, H, I.kept kp, rfl, q⟩
        | cons n r => cases e
      · cases ns with
        | nil => cases e
        | cons n r =>
          obtain ⟨rfl, rfl⟩ := List.cons.inj e
          rw [PySem.W.minD_ints] at hr
          cases hr
          exact ⟨.int (r.foldl min n), H, I.kept kp, ⟨_, rfl⟩, q⟩
theorem ints_vals {K : PySem.W.Frag} {H : Hp} : ∀ {ns : List Int} {vs : List V}, RpAll K H (ns.map Da.int) vs → vs = ns.map V.int
  | [], _, .nil => rfl
  | n :: ns, _, .cons r t => by
    cases r.atom
    rw [ints_vals t]
    rfl
theorem de_minD (S : Sc M X k N sc cs) {k3 : Nat} {q1 kp : Pos} (hm : M.mg "min" = none) (hg : glB sc "min" = true) (h : DE X e δ fun d => ∃ ns : List Int, d = .lst (ns.map Da.int) ∧ Φ (.a (odV (ominI ns))))
    (hs : starEach [e] X.env = (false, eval e X.env) :: starEach [] X.env := by rfl) :
    DM X m (.Call (.Name "min" p2) [e] [⟨some "default", .Constant .none k3 q1, kp⟩] pos) δ Φ := DM.of <| .mk fun Bs B Hs H σ o Q q => by
  refine WE.of (pe_callBK (ks := ["default"]) (call_minD S) (by show X.env.scope.names.lookup _ = _; rw [S.hsc]; exact (glB_ok hg).1) (by rw [S.hmg]; exact hm) PyProof.Rows.boot_min (pa_cons pe_W pa_nil hs) (pk_cons pe_non pk_nil) (by decide) (by decide) (by rw [hs]; rfl) (by rw [hs]; rfl)) ?_
  refine h Bs B Hs H σ o _ fun d v Hs1 H1 g ⟨ns, e1, p⟩ r => ?_
  subst e1
  obtain ⟨a, vs, rfl, ha, ra⟩ := r.lst_inv
  rw [ints_vals ra] at ha
  exact ⟨a, ns, rfl, rfl, .of (g.sub _ _ ha), q _ _ Hs1 H1 g p (.a _)⟩
end
end DL

/-! DL12: own lists made with things in them; a pair whose second is a new own dict; keyword calls in any order. -/
namespace DL
open PySem PySem.Spec PyProof.Rows L2
section
variable {M : Md} {X : Cx} {k : Nat} {N : List Str} {sc cs : Scope} {δ δ' : Sg} {m : Bool} {Φ Ψ : Da → Prop} {x y : Str} {pos p2 p3 apos kpos : Pos} {e a b c o tg it kx vx : Expr} {es : List Expr} {sts : List Stmt} {nx bk ct : Sg → Prop} {rt : Da → Prop}
theorem ds_ownLs (S : Sc M X k N sc cs) (h : DAt X (e :: es) δ fun ds => ∃ δ', Ss N δ x (some (.ol ds)) δ' ∧ nx δ') (hl : locB cs x = true) (hN : N.contains x = true) (hz : (e :: es).length ≤ sizeLine := by decide) : DS X (.Assign [.Name x p2] (.List (e :: es) p3) pos) δ nx rt bk ct := .mk fun Bs B Hs H σ o D f => by
  obtain ⟨i, hi⟩ : ∃ i : Nat, N[i]? = some x := List.mem_iff_getElem?.mp (by simpa using hN)
  refine WS.of (ps_set (i := i) (by rw [S.n]; exact S.nd) (by rw [S.n]; exact hi) (S.fn x hl).1 (pe_lst pa_W) rfl (S.fn x hl).2) ?_
  refine h Bs B Hs H σ o _ fun ds vs Hs1 H1 g1 ⟨δ', h1, h2⟩ r hd => ⟨by rw [← r.len, hd]; exact hz, fun p hp => ?_⟩
  obtain ⟨j, h3, rfl⟩ := h1.at
  obtain rfl : i = j := nodup_ix S.nd hi h3
  have o1 := o.mono g1
  exact f.nx _ _ Hs1 _ (o1.setO i (s0 := .ol ds) hp ⟨p, vs, rfl, g1.sub.free hp, upd_same, r⟩) g1.ss h2
/-- x, y = (e, {}) -/
theorem ds_parT (S : Sc M X k N sc cs) {px py pt p4 : Pos} {kt k2 pt2} (h : DE X a δ fun d => ∃ δ1 δ2, Ss N δ x (some (.d d)) δ1 ∧ Ss N δ1 y (some (.ot [])) δ2 ∧ nx δ2) (hxy : x ≠ y)
    (hx : (sc.names.lookup x == some .local) = true) (hy : (sc.names.lookup y == some .local) = true)
    (hw : ∀ env : Env, env.scope = sc → swappedStores [.Tuple [.Name x px, .Name y py] kt pt] (.Tuple [a, .Dict [] [] p4] k2 pt2) env = pure (some [x, y]))
    (hN : N.contains x = true) (hN2 : N.contains y = true)
    (hs : swapsWithSole [.Tuple [.Name x px, .Name y py] kt pt] (.Tuple [a, .Dict [] [] p4] k2 pt2) pos.line X.env = pure false := by rfl)
    (h1 : starEach [a, .Dict [] [] p4] X.env = (false, eval a X.env) :: starEach [.Dict [] [] p4] X.env := by rfl) (h2 : starEach [.Dict [] [] p4] X.env = (false, eval (.Dict [] [] p4) X.env) :: starEach [] X.env := by rfl) :
    DS X (.Assign [.Tuple [.Name x px, .Name y py] kt pt] (.Tuple [a, .Dict [] [] p4] k2 pt2) pos) δ nx rt bk ct := .mk fun Bs B Hs H σ o D f => by
  obtain ⟨i, hi⟩ : ∃ i : Nat, N[i]? = some x := List.mem_iff_getElem?.mp (by simpa using hN)
  obtain ⟨j, hj⟩ : ∃ i : Nat, N[i]? = some y := List.mem_iff_getElem?.mp (by simpa using hN2)
  have hij : i ≠ j := fun e => by
    rw [e, hj] at hi
    exact hxy (Option.some.inj hi).symm
  refine WS.of (ps_par (i := i) (j := j) S.calm (by rw [S.n]; exact S.nd) (by rw [S.n]; exact hi) (by rw [S.n]; exact hj) hij (by rw [S.hsc]; simpa using hx) (by rw [S.hsc]; simpa using hy) (pa_cons pe_W (pa_cons pe_dnewT pa_nil h2) h1) (hw _ S.hsc) hs) ?_
  refine h Bs B Hs H σ o _ fun d v Hs1 H1 g1 ⟨δ1, δ2, q1, q2, p2⟩ r1 => fun p hp => ?_
  obtain ⟨i', e1, rfl⟩ := q1.at
  obtain rfl : i = i' := nodup_ix S.nd hi e1
  obtain ⟨j', e2, rfl⟩ := q2.at
  obtain rfl : j = j' := nodup_ix S.nd hj e2
  exact ⟨v, .ref p, rfl, f.nx _ _ Hs1 _ (((o.mono g1).setD i r1).setO j (s0 := .ot []) hp ⟨p, rfl, g1.sub.free hp, upd_same⟩) g1.ss p2⟩
end
end DL

/-! DL13: three keywords from the last parameter to the first; plain assignment to a target. -/
namespace DL
open PySem PySem.Spec PyProof.Rows L2
structure CalR3 {α : Type} (M : Md) (k : Nat) (x : Str) (ks : List Str) (args : α → List Da) (pre : α → Prop) (post : α → Da → Prop) : Prop where
  ex : ∃ f fd ps, FnOk M.P M.w M.K M.mg M.base CX0 k f fd ps (SpD M.K [true, true, true] args pre post) ∧ M.mg x = some (.ref f) ∧ PySem.W.keepIn M.K (.ref f) = true ∧ KBinds M.K fd ps ks (fun us ws => us ++ ws.reverse) (fun vs zs => vs ++ zs.reverse)
theorem CalR3.mono {α : Type} {M : Md} {k j : Nat} {x : Str} {ks : List Str} {args : α → List Da} {pre : α → Prop} {post : α → Da → Prop} (c : CalR3 M k x ks args pre post) (h : k ≤ j) : CalR3 M j x ks args pre post := by
  obtain ⟨f, fd, ps, F, h1, h2, h3⟩ := c.ex
  exact ⟨f, fd, ps, F.mono h, h1, h2, h3⟩
theorem three_cases {β : Type} : ∀ {us ws : List β}, (us ++ ws.reverse).length = 3 → (∃ a b c, us = [] ∧ ws = [a, b, c]) ∨ (∃ a b c, us = [a] ∧ ws = [b, c]) ∨ (∃ a b c, us = [a, b] ∧ ws = [c]) ∨ ∃ a b c, us = [a, b, c] ∧ ws = []
  | [], [a, b, c], _ => .inl ⟨a, b, c, rfl, rfl⟩
  | [a], [b, c], _ => .inr (.inl ⟨a, b, c, rfl, rfl⟩)
  | [a, b], [c], _ => .inr (.inr (.inl ⟨a, b, c, rfl, rfl⟩))
  | [a, b, c], [], _ => .inr (.inr (.inr ⟨a, b, c, rfl, rfl⟩))
  | [], [], h => by simp at h
  | [], [_], h => by simp at h
  | [], [_, _], h => by simp at h
  | [], _ :: _ :: _ :: _ :: _, h => by simp at h
  | [_], [], h => by simp at h
  | [_], [_], h => by simp at h
  | [_], _ :: _ :: _ :: _, h => by simp at h
  | [_, _], [], h => by simp at h
  | [_, _], _ :: _ :: _, h => by simp at h
  | [_, _, _], _ :: _, h => by simp at h
  | _ :: _ :: _ :: _ :: _, _, h => by simp at h
section
variable {M : Md} {X : Cx} {k : Nat} {N : List Str} {sc cs : Scope} {δ δ' : Sg} {m : Bool} {Φ Ψ : Da → Prop} {x y : Str} {pos p2 p3 apos kp1 kp2 kp3 : Pos} {e a b c : Expr}
theorem calr3_mk {α : Type} {f : Addr} {fd : FuncData} {ps ks : List Str} {args : α → List Da} {pre : α → Prop} {post : α → Da → Prop} (F : FnOk M.P M.w M.K M.mg M.base CX0 k f fd ps (SpD M.K [true, true, true] args pre post)) (h1 : M.mg x = some (.ref f))
    (h2 : PySem.W.keepIn M.K (.ref f) = true) (h3 : ∀ (s : Shared) (us ws : List Value), M.K.In s.heap → (us ++ ws.reverse).length = ps.length → BindsTo s fd ⟨us, ks.zip ws⟩ (ps.zip (us ++ ws.reverse))) : CalR3 M k x ks args pre post :=
  ⟨f, fd, ps, F, h1, h2, h3, fun r1 r2 => r1.append r2.reverse⟩
theorem de_callR3 {α : Type} {k1 k2 k3 : Str} {args : α → List Da} {pre : α → Prop} {post : α → Da → Prop} (S : Sc M X k N sc cs) (cl : CalR3 M k x [k1, k2, k3] args pre post) (hg : glB sc x = true)
    (h : DE X a δ fun d1 => DE X b δ fun d2 => DE X c δ fun d3 => ∃ z, [d3, d2, d1] = args z ∧ pre z ∧ ∀ d, post z d → Φ d) : DM X m (.Call (.Name x p2) [] [⟨some k1, a, kp1⟩, ⟨some k2, b, kp2⟩, ⟨some k3, c, kp3⟩] pos) δ Φ := DM.of <| .mk fun Bs B Hs H σ o Q q => by
  obtain ⟨f, fd, ps, F, h1, h2, h3⟩ := cl.ex
  obtain ⟨g1, g2, g3⟩ := glB_ok hg
  have F' : FnOk X.prog X.w X.K X.mg X.base CX0 k f fd ps (SpD X.K [true, true, true] args pre post) := by rw [S.hP, S.hw, S.hK, S.hmg, S.hb]; exact F
  have h3' : KBinds X.K fd ps [k1, k2, k3] (fun us ws => us ++ ws.reverse) (fun vs zs => vs ++ zs.reverse) := by rw [S.hK]; exact h3
  have main : PE X (.Call (.Name x p2) [] [⟨some k1, a, kp1⟩, ⟨some k2, b, kp2⟩, ⟨some k3, c, kp3⟩] pos) (fun σ H Q => tCons (WE X a) (tCons (WE X b) (tCons (WE X c) tNil)) σ H fun zs H2 => SpD X.K [true, true, true] args pre post zs.reverse H2 Q E0) := by
    refine .mk fun pins s σ H Q I hq => ?_
    refine wpAny_Call_Name_kw (ld_glob I (by show X.env.scope.names.lookup x = _; rw [S.hsc]; exact g1) (by rw [S.hmg]; exact h1) ?_ g2)
    refine PySem.W.callWith_KW0 (h₀ := X.base) I.ok.mod.kin (by rw [S.hK]; exact h2) rfl (thn ((pk_cons (nm := some k1) (kpos := kp1) pe_W (pk_cons (nm := some k2) (kpos := kp2) pe_W (pk_cons (nm := some k3) (kpos := kp3) pe_W pk_nil))).run pos pins s σ H _ I hq) fun ws s2 ⟨zs, H2, I2, rz, q2⟩ => ⟨I2.kIn, ?_⟩)
    exact run_fnk (us := []) (vs := []) F' S.room h3' pass0 I2 .nil rz q2
  refine WE.of main ?_
  refine h Bs B Hs H σ o _ fun d1 v1 Hs1 H1 gg1 q1 r1 => q1 Bs B Hs1 H1 σ (o.mono gg1) _ fun d2 v2 Hs2 H2 gg2 q2 r2 => q2 Bs B Hs2 H2 σ ((o.mono gg1).mono gg2) _ fun d3 v3 Hs3 H3 gg3 ⟨z, ez, pz, kz⟩ r3 => ?_
  refine ⟨z, Hs3, gg3.sub, ?_, pz, fun d v Hs' H' g p rd => q d v Hs' H' (((gg1.trans gg2).trans gg3).trans g) (kz d p) rd⟩
  rw [← ez]
  exact .cons r3 (.cons (Rp.mono gg3.ss r2) (.cons (Rp.mono (gg2.ss.trans gg3.ss) r1) .nil))
end
end DL

/-! DL14: three names at once; two keywords from the last parameter to the first; numbers' abs in tests; texts repeated. -/
namespace DL
open PySem PySem.Spec PyProof.Rows L2
structure CalR2 {α : Type} (M : Md) (k : Nat) (x : Str) (ks : List Str) (args : α → List Da) (pre : α → Prop) (post : α → Da → Prop) : Prop where
  ex : ∃ f fd ps, FnOk M.P M.w M.K M.mg M.base CX0 k f fd ps (SpD M.K [true, true] args pre post) ∧ M.mg x = some (.ref f) ∧ PySem.W.keepIn M.K (.ref f) = true ∧ KBinds M.K fd ps ks (fun us ws => us ++ ws.reverse) (fun vs zs => vs ++ zs.reverse)
theorem CalR2.mono {α : Type} {M : Md} {k j : Nat} {x : Str} {ks : List Str} {args : α → List Da} {pre : α → Prop} {post : α → Da → Prop} (c : CalR2 M k x ks args pre post) (h : k ≤ j) : CalR2 M j x ks args pre post := by
  obtain ⟨f, fd, ps, F, h1, h2, h3⟩ := c.ex
  exact ⟨f, fd, ps, F.mono h, h1, h2, h3⟩
theorem two_cases {β : Type} : ∀ {us ws : List β}, (us ++ ws.reverse).length = 2 → (∃ a b, us = [] ∧ ws = [a, b]) ∨ (∃ a b, us = [a] ∧ ws = [b]) ∨ ∃ a b, us = [a, b] ∧ ws = []
  | [], [a, b], _ => .inl ⟨a, b, rfl, rfl⟩
  | [a], [b], _ => .inr (.inl ⟨a, b, rfl, rfl⟩)
  | [a, b], [], _ => .inr (.inr ⟨a, b, rfl, rfl⟩)
  | [], [], h => by simp at h
  | [], [_], h => by simp at h
  | [], _ :: _ :: _ :: _, h => by simp at h
  | [_], [], h => by simp at h
  | [_], _ :: _ :: _, h => by simp at h
  | [_, _], _ :: _, h => by simp at h
  | _ :: _ :: _ :: _, _, h => by simp at h
section
variable {M : Md} {X : Cx} {k : Nat} {N : List Str} {sc cs : Scope} {δ δ' : Sg} {m : Bool} {Φ Ψ : Da → Prop} {x y z : Str} {pos p2 p3 apos kp1 kp2 kp3 : Pos} {e a b c : Expr} {nx bk ct : Sg → Prop} {rt : Da → Prop}
theorem calr2_mk {α : Type} {f : Addr} {fd : FuncData} {ps ks : List Str} {args : α → List Da} {pre : α → Prop} {post : α → Da → Prop} (F : FnOk M.P M.w M.K M.mg M.base CX0 k f fd ps (SpD M.K [true, true] args pre post)) (h1 : M.mg x = some (.ref f))
    (h2 : PySem.W.keepIn M.K (.ref f) = true) (h3 : ∀ (s : Shared) (us ws : List Value), M.K.In s.heap → (us ++ ws.reverse).length = ps.length → BindsTo s fd ⟨us, ks.zip ws⟩ (ps.zip (us ++ ws.reverse))) : CalR2 M k x ks args pre post :=
  ⟨f, fd, ps, F, h1, h2, h3, fun r1 r2 => r1.append r2.reverse⟩
theorem de_callR2 {α : Type} {k1 k2 : Str} {args : α → List Da} {pre : α → Prop} {post : α → Da → Prop} (S : Sc M X k N sc cs) (cl : CalR2 M k x [k1, k2] args pre post) (hg : glB sc x = true)
    (h : DE X a δ fun d1 => DE X b δ fun d2 => ∃ z, [d2, d1] = args z ∧ pre z ∧ ∀ d, post z d → Φ d) : DM X m (.Call (.Name x p2) [] [⟨some k1, a, kp1⟩, ⟨some k2, b, kp2⟩] pos) δ Φ := DM.of <| .mk fun Bs B Hs H σ o Q q => by
  obtain ⟨f, fd, ps, F, h1, h2, h3⟩ := cl.ex
  obtain ⟨g1, g2, g3⟩ := glB_ok hg
  have F' : FnOk X.prog X.w X.K X.mg X.base CX0 k f fd ps (SpD X.K [true, true] args pre post) := by rw [S.hP, S.hw, S.hK, S.hmg, S.hb]; exact F
  have h3' : KBinds X.K fd ps [k1, k2] (fun us ws => us ++ ws.reverse) (fun vs zs => vs ++ zs.reverse) := by rw [S.hK]; exact h3
  have main : PE X (.Call (.Name x p2) [] [⟨some k1, a, kp1⟩, ⟨some k2, b, kp2⟩] pos) (fun σ H Q => tCons (WE X a) (tCons (WE X b) tNil) σ H fun zs H2 => SpD X.K [true, true] args pre post zs.reverse H2 Q E0) := by
    refine .mk fun pins s σ H Q I hq => ?_
    refine wpAny_Call_Name_kw (ld_glob I (by show X.env.scope.names.lookup x = _; rw [S.hsc]; exact g1) (by rw [S.hmg]; exact h1) ?_ g2)
    refine PySem.W.callWith_KW0 (h₀ := X.base) I.ok.mod.kin (by rw [S.hK]; exact h2) rfl (thn ((pk_cons (nm := some k1) (kpos := kp1) pe_W (pk_cons (nm := some k2) (kpos := kp2) pe_W pk_nil)).run pos pins s σ H _ I hq) fun ws s2 ⟨zs, H2, I2, rz, q2⟩ => ⟨I2.kIn, ?_⟩)
    exact run_fnk (us := []) (vs := []) F' S.room h3' pass0 I2 .nil rz q2
  refine WE.of main ?_
  refine h Bs B Hs H σ o _ fun d1 v1 Hs1 H1 gg1 q1 r1 => q1 Bs B Hs1 H1 σ (o.mono gg1) _ fun d2 v2 Hs2 H2 gg2 ⟨z, ez, pz, kz⟩ r2 => ?_
  refine ⟨z, Hs2, gg2.sub, ?_, pz, fun d v Hs' H' g p rd => q d v Hs' H' ((gg1.trans gg2).trans g) (kz d p) rd⟩
  rw [← ez]
  exact .cons r2 (.cons (Rp.mono gg2.ss r1) .nil)
/-- a, b, c = e1, e2, e3, plain local names -/
theorem ds_par3 (S : Sc M X k N sc cs) {px py pz pt : Pos} {kt k2 pt2} (h : DE X a δ fun d => DE X b δ fun d' => DE X c δ fun d'' => ∃ δ1 δ2 δ3, Ss N δ x (some (.d d)) δ1 ∧ Ss N δ1 y (some (.d d')) δ2 ∧ Ss N δ2 z (some (.d d'')) δ3 ∧ nx δ3) (hxy : x ≠ y) (hxz : x ≠ z) (hyz : y ≠ z)
    (hx : (sc.names.lookup x == some .local) = true) (hy : (sc.names.lookup y == some .local) = true) (hz : (sc.names.lookup z == some .local) = true)
    (hw : ∀ env : Env, env.scope = sc → swappedStores [.Tuple [.Name x px, .Name y py, .Name z pz] kt pt] (.Tuple [a, b, c] k2 pt2) env = pure (some [x, y, z]))
    (hN : N.contains x = true) (hN2 : N.contains y = true) (hN3 : N.contains z = true)
    (hs : swapsWithSole [.Tuple [.Name x px, .Name y py, .Name z pz] kt pt] (.Tuple [a, b, c] k2 pt2) pos.line X.env = pure false := by rfl)
    (h1 : starEach [a, b, c] X.env = (false, eval a X.env) :: starEach [b, c] X.env := by rfl) (h2 : starEach [b, c] X.env = (false, eval b X.env) :: starEach [c] X.env := by rfl) (h3 : starEach [c] X.env = (false, eval c X.env) :: starEach [] X.env := by rfl) :
    DS X (.Assign [.Tuple [.Name x px, .Name y py, .Name z pz] kt pt] (.Tuple [a, b, c] k2 pt2) pos) δ nx rt bk ct := .mk fun Bs B Hs H σ o D f => by
  obtain ⟨i, hi⟩ : ∃ i : Nat, N[i]? = some x := List.mem_iff_getElem?.mp (by simpa using hN)
  obtain ⟨j, hj⟩ : ∃ i : Nat, N[i]? = some y := List.mem_iff_getElem?.mp (by simpa using hN2)
  obtain ⟨l, hl⟩ : ∃ i : Nat, N[i]? = some z := List.mem_iff_getElem?.mp (by simpa using hN3)
  have nq : ∀ {i j : Nat} {x y : Str}, N[i]? = some x → N[j]? = some y → x ≠ y → i ≠ j := fun hi hj ne e => by
    rw [e, hj] at hi
    exact ne (Option.some.inj hi).symm
  refine WS.of (ps_par3 (i := i) (j := j) (l := l) S.calm (by rw [S.n]; exact S.nd) (by rw [S.n]; exact hi) (by rw [S.n]; exact hj) (by rw [S.n]; exact hl) (nq hi hj hxy) (nq hi hl hxz) (nq hj hl hyz) (by rw [S.hsc]; simpa using hx) (by rw [S.hsc]; simpa using hy) (by rw [S.hsc]; simpa using hz) (pa_cons pe_W (pa_cons pe_W (pa_cons pe_W pa_nil h3) h2) h1) (hw _ S.hsc) hs) ?_
  refine h Bs B Hs H σ o _ fun d v Hs1 H1 g1 p1 r1 => p1 Bs B Hs1 H1 σ (o.mono g1) _ fun d' w Hs2 H2 g2 p2 r2 => p2 Bs B Hs2 H2 σ ((o.mono g1).mono g2) _ fun d'' u Hs3 H3 g3 ⟨δ1, δ2, δ3, q1, q2, q3, pf⟩ r3 => ?_
  obtain ⟨i', e1, rfl⟩ := q1.at
  obtain rfl : i = i' := nodup_ix S.nd hi e1
  obtain ⟨j', e2, rfl⟩ := q2.at
  obtain rfl : j = j' := nodup_ix S.nd hj e2
  obtain ⟨l', e3, rfl⟩ := q3.at
  obtain rfl : l = l' := nodup_ix S.nd hl e3
  exact ⟨v, w, u, rfl, f.nx _ _ Hs3 H3 ((((((o.mono g1).mono g2).mono g3).setD i (Rp.mono (g2.ss.trans g3.ss) r1)).setD j (Rp.mono g3.ss r2)).setD l r3) ((g1.ss.trans g2.ss).trans g3.ss) pf⟩
end
end DL

/-! DL15: enumerate over a text and over a tuple; tuples repeated. -/
namespace DL
open PySem PySem.Spec PyProof.Rows L2
theorem meets_enum1 {v : Value} {o : Obj} {H : Heap → Prop} (B : Begins v o H) :
    Meets (Builtin.«enumerate.__new__» ⟨[.type "enumerate", v], []⟩) (fun _ R s => H s.heap ∧
      R (.ok (.ret (.ref (s.heap.push o).objs.size))) { s with heap := (s.heap.push o).push { cls := .type "enumerate", data := .fields #[.none, .bool false, .ref s.heap.objs.size, rawInt 0, .none, .none] } }) :=
  .of_wp fun prog w A R s h => by
    obtain ⟨hp, g, d, tk, os⟩ := s; obtain ⟨h1, h⟩ := h
    have hsub := sub_enumerate
    have q1 : ∀ {A' : Around} {E : Value → Shared → Prop} {Q : Value → Shared → Prop}, Q (.ref hp.objs.size) ⟨hp.push o, g, d, tk, os⟩ → wpAny (model prog w) A' (pyIter v) Q E ⟨hp, g, d, tk, os⟩ :=
      fun q => B.iter prog w _ _ ⟨hp, g, d, tk, os⟩ _ h1 q
    wp_walk using q1
    refine wpAny_stack_any fun st => wpAny_pure ?_
    split
    · rename_i c _ _ _ _ _
      cases (c == Value.type "enumerate")
      · wp_walk using q1
        exact ⟨_, rfl, h⟩
      · wp_walk using q1
        exact ⟨_, rfl, h⟩
    · wp_walk using q1
      exact ⟨_, rfl, h⟩
theorem enum_begins1 {prog : Program} {w : World} {A : Around} {E : Value → Shared → Prop} {s : Shared} {v : Value} {o : Obj} {H : Heap → Prop} {Q : Value → Shared → Prop} (B : Begins v o H) (h1 : H s.heap)
    (h : ∀ h', IsEnum h' (s.heap.objs.size + 1) s.heap.objs.size 0 .none → h'.get? s.heap.objs.size = some o → h'.objs.size = s.heap.objs.size + 2 →
      (∀ b o, s.heap.get? b = some o → h'.get? b = some o) → Q (.ref (s.heap.objs.size + 1)) { s with heap := h' }) :
    wpAny (model prog w) A (call (.type "enumerate") [v]) Q E s := by
  refine callType_new F.called_enumerate (by decide) (F.typeCall_enumerate_1 _) (F.newCall_enumerate_1 _) (fun obj => F.args_object_init_2 obj _) F.entry_enumerate_new
    (meets_enum1 B) ⟨h1, ?_⟩
  have hz : (s.heap.push o).objs.size = s.heap.objs.size + 1 := Heap.size_push ..
  show _ ∧ _
  rw [hz]
  have he : IsEnum ((s.heap.push o).push { cls := .type "enumerate", data := .fields #[.none, .bool false, .ref s.heap.objs.size, rawInt 0, .none, .none] }) (s.heap.objs.size + 1) s.heap.objs.size 0 .none := by
    have := Heap.get?_push_size (s.heap.push o) (o := { cls := .type "enumerate", data := .fields #[.none, .bool false, .ref s.heap.objs.size, rawInt 0, .none, .none] }) rfl
    rw [hz] at this; exact this
  refine ⟨⟨_, he, rfl⟩, h _ he (Heap.get?_push_of_some _ (Heap.get?_push_size _ B.free)) (by rw [Heap.size_push, hz]) fun b o x => Heap.get?_push_of_some _ (Heap.get?_push_of_some _ x)⟩

/-! ### over a text -/
def ItES (x : Str) : It :=
  ⟨fun i _ => i < x.cps.size, fun i H v H' => ∃ T c, v = .ref T ∧ H T = none ∧ H' = upd H T (.tup [.int (i : Nat), .str ⟨#[c]⟩]) ∧ x.cps[i]? = some c, fun i _ => i = x.cps.size⟩
def StES (n : Nat) (x : Str) (t : Tok) (i : Nat) (h : Heap) : Prop := (∃ old, IsEnum h (n + 1) n (0 + (i : Int)) old) ∧ h.IsStrIter n (strIterType x) x t i
theorem goesES {P : Program} {w : World} {A : Around} (hh : A.handled = none) (elts : List Expr) (kk : Nat) (tpos : Pos) (n : Nat) (x : Str) (t : Tok) :
    GoesN P w A (.Tuple elts kk tpos) (n + 1) [n + 1, n] [n + 1, n] x.cps.size
      (fun i h v h' => ∃ T tt a, v = .ref T ∧ h.objs.size ≤ T ∧ (∃ c s, x.cps[i]? = some c ∧ a = .str ⟨#[c]⟩ s) ∧ h'.IsTuple T #[.int (0 + (i : Int)) tt, a]) (StES n x t) :=
  GoesN.enumFrom 0 (Draws.text (A := A.in1) (show A.in1.handled = none from hh) n x t) (n + 1) (Nat.succ_ne_self n) (fun z => Nat.succ_ne_self n (List.mem_singleton.mp z)) (List.mem_singleton.mpr rfl)
theorem turnES {P : Program} {w : World} {K : PySem.W.Frag} {elts : List Expr} {kk : Nat} {tpos : Pos} (n : Nat) (x : Str) (t : Tok) : Turn P w K (.Tuple elts kk tpos) (ItES x) [n + 1, n] (n + 1) (StES n x t) := by
  have G := fun (A : Around) (hh : A.handled = none) => goesES (P := P) (w := w) hh elts kk tpos n x t
  have live : ∀ i h, StES n x t i h → ∀ b ∈ [n + 1, n], ∃ o, h.get? b = some o ∧ ∀ v, o.data ≠ .cell v := fun i h st b hb => by
    obtain ⟨⟨old, he⟩, ⟨o, ho, _, hd⟩⟩ := st
    have e' : b = n + 1 ∨ b = n := by simpa using hb
    rcases e' with z | z
    · rw [z]; exact ⟨_, he, fun v q => nomatch q⟩
    · rw [z]; exact ⟨o, ho, fun v q => by rw [hd] at q; cases q⟩
  refine ⟨List.mem_cons_self, live, fun i h h' st k => (G {} rfl).frame i h h' st k, ?_, ?_, fun A i s Q E st h => let ⟨⟨_, he⟩, _⟩ := st; wpAny_pyIter_enum he h⟩
  · rintro X rfl rfl rfl hc i pins s σ H E I hf st hg
    refine (G X.A (I.ok.hd hc)).goes i s _ E hg st fun v h' tk hy st' hk _ => ?_
    obtain ⟨T, tt, a, ev, hT, ⟨c, s1, ec, ea⟩, ho⟩ := hy
    subst ev ea
    have e0 : (0 + (i : Int)) = (i : Int) := Int.zero_add _
    rw [e0] at ho
    have new : ObjOk X.prog X.w (upd H T (.tup [.int (i : Nat), .str ⟨#[c]⟩])) h' T (.tup [.int (i : Nat), .str ⟨#[c]⟩]) := ⟨by show 2 ≤ sizeLine; decide, _, .cons ⟨tt, rfl⟩ (.cons ⟨s1, rfl⟩ .nil), ho⟩
    refine ⟨.ref T, _, I.turnedNew (t' := tk) (fun b o hb e => hk b o hb e) hf hT new, rfl, ⟨T, c, rfl, I.hok.fresh hT, rfl, ec⟩, st', fun b hb => ?_⟩
    obtain ⟨o, eo, _⟩ := live _ _ st b hb
    rw [upd_ne (Nat.ne_of_lt (Nat.lt_of_lt_of_le (Heap.lt_size eo) hT))]
    exact (hf b hb).1
  · rintro X rfl rfl rfl hc i pins s σ H E I hf st hg
    cases (show i = x.cps.size from hg)
    exact (G X.A (I.ok.hd hc)).stops s (fun s1 => Inv X pins σ H s1) E st fun h' tk hk _ => I.turnedL (t' := tk) (fun b o hb e => hk b o hb e) hf
def iES (ta : TA) : TI := fun σ H R => ta σ H fun vs H1 => ∃ x, vs = [.str x] ∧ R (ItES x) H1
theorem pi_enumS {X : Cx} {e : Expr} {ta : TA} {p pos tpos : Pos} {elts : List Expr} {kk : Nat} (hg : Gl X "enumerate") (hm : X.mg "enumerate" = none) (ha : PA X [e] ta) (hs : starEach [e] X.env = [(false, eval e X.env)] := by rfl) :
    PI X (.Tuple elts kk tpos) (.Call (.Name "enumerate" p) [e] [] pos) (iES ta) := .mk fun pins s σ H R I h =>
  Call_ (ld_blt I hg hm PyProof.Rows.boot_enumerate (PyProof.Rows.callWith_type1 (thn (ha.run pos pins s σ H _ I h) fun us s1 ⟨vs, H1, I1, r1, x, ex, q⟩ => by
    subst ex
    cases r1 with
    | cons r rr =>
      cases rr
      obtain ⟨t1, rfl⟩ := r
      refine enum_begins1 (begins_text x t1) trivial fun h' he g1 hsz hk => wpAny_pyIter_enum he ?_
      refine ⟨_, [s1.heap.objs.size + 1, s1.heap.objs.size], _, ItES x, H1, rfl, I1.kept (t' := s1.toks) hk, turnES s1.heap.objs.size x t1, ⟨⟨_, he⟩, ⟨_, g1, rfl, rfl⟩⟩, fun b hb => ?_, q⟩
      have hle : s1.heap.objs.size ≤ b := by
        have e' : b = s1.heap.objs.size + 1 ∨ b = s1.heap.objs.size := by simpa using hb
        rcases e' with z | z
        · rw [z]; exact Nat.le_add_right _ _
        · rw [z]; exact Nat.le_refl _
      exact I1.fpOk hle (I1.hok.fresh hle)) hs rfl))

/-! ### over a tuple -/
def ItET (K : PySem.W.Frag) (a : Addr) : It :=
  ⟨fun i H => ∃ (xs : List V) (x : V), SqT K H a xs ∧ xs[i]? = some x, fun i H v H' => ∃ T x, v = .ref T ∧ H T = none ∧ H' = upd H T (.tup [.int (i : Nat), x]) ∧ ∀ xs, SqT K H a xs → xs[i]? = some x, fun i H => ∃ xs : List V, SqT K H a xs ∧ xs.length = i⟩
def StET (n a : Nat) (i : Nat) (h : Heap) : Prop := (∃ old, IsEnum h (n + 1) n (0 + (i : Int)) old) ∧ h.IsTupleIter n a i ∧ a < n
theorem goesET {P : Program} {w : World} {A : Around} (hh : A.handled = none) (elts : List Expr) (kk : Nat) (tpos : Pos) (n a : Nat) (ha : a < n) (items : Array Value) :
    GoesN P w A (.Tuple elts kk tpos) (n + 1) [n + 1, n, a] [n + 1, n] items.size
      (fun i h v h' => ∃ T tt x, v = .ref T ∧ h.objs.size ≤ T ∧ items[i]? = some x ∧ h'.IsTuple T #[.int (0 + (i : Int)) tt, x]) (fun i h => (∃ old, IsEnum h (n + 1) n (0 + (i : Int)) old) ∧ h.IsTupleIter n a i ∧ h.IsTuple a items) :=
  GoesN.enumFrom 0 (Draws.tuple (A := A.in1) (show A.in1.handled = none from hh) n a (Nat.ne_of_lt ha) items) (n + 1) (Nat.succ_ne_self n) (fun z => by
    rcases List.mem_cons.mp z with z | z
    · exact Nat.succ_ne_self n z
    · have := List.mem_singleton.mp z
      have e : n + 1 = a := this
      omega) List.mem_cons_self
theorem turnET {P : Program} {w : World} {K : PySem.W.Frag} {elts : List Expr} {kk : Nat} {tpos : Pos} (n a : Nat) : Turn P w K (.Tuple elts kk tpos) (ItET K a) [n + 1, n] (n + 1) (StET n a) := by
  have live : ∀ i h, StET n a i h → ∀ b ∈ [n + 1, n], ∃ o, h.get? b = some o ∧ ∀ v, o.data ≠ .cell v := fun i h st b hb => by
    obtain ⟨⟨old, he⟩, ⟨o, ho, _, hd⟩, _⟩ := st
    have e' : b = n + 1 ∨ b = n := by simpa using hb
    rcases e' with z | z
    · rw [z]; exact ⟨_, he, fun v q => nomatch q⟩
    · rw [z]; exact ⟨o, ho, fun v q => by rw [hd] at q; cases q⟩
  refine ⟨List.mem_cons_self, live, fun i h h' st k => ?_, ?_, ?_, fun A i s Q E st h => let ⟨⟨_, he⟩, _⟩ := st; wpAny_pyIter_enum he h⟩
  · obtain ⟨⟨old, he⟩, hi, ha⟩ := st
    exact ⟨⟨old, k (n + 1) (by simp) _ he⟩, hi.at fun o q => k n (by simp) o q, ha⟩
  · rintro X rfl rfl rfl hc i pins s σ H E I hf st hg
    obtain ⟨he, hi, ha⟩ := st
    obtain ⟨xs, x, hq, hx⟩ := hg
    obtain ⟨its, rv, p, hz⟩ := I.tuple hq
    obtain ⟨u, hu, ru⟩ := rv.get hx
    have hlt : i < its.toArray.size := by simpa using (List.getElem?_eq_some_iff.mp hu).1
    refine (goesET (I.ok.hd hc) elts kk tpos n a ha its.toArray).goes i s _ E hlt ⟨he, hi, p⟩ fun v h' tk hy st' hk _ => ?_
    obtain ⟨T, tt, y, ev, hT, ey, ho⟩ := hy
    subst ev
    have e1 : its[i]? = some y := by simpa using ey
    rw [hu] at e1
    cases e1
    have e0 : (0 + (i : Int)) = (i : Int) := Int.zero_add _
    rw [e0] at ho
    have new : ObjOk X.prog X.w (upd H T (.tup [.int (i : Nat), x])) h' T (.tup [.int (i : Nat), x]) := ⟨by show 2 ≤ sizeLine; decide, _, .cons ⟨tt, rfl⟩ (.cons ru .nil), ho⟩
    refine ⟨.ref T, _, I.turnedNew (t' := tk) (fun b o hb e => hk b o hb e) hf hT new, rfl, ⟨T, x, rfl, I.hok.fresh hT, rfl, fun ys hy => by rw [I.tuple_inj hy hq]; exact hx⟩, ⟨st'.1, st'.2.1, ha⟩, fun b hb => ?_⟩
    obtain ⟨o, eo, _⟩ := live i _ ⟨he, hi, ha⟩ b hb
    rw [upd_ne (Nat.ne_of_lt (Nat.lt_of_lt_of_le (Heap.lt_size eo) hT))]
    exact (hf b hb).1
  · rintro X rfl rfl rfl hc i pins s σ H E I hf st hg
    obtain ⟨he, hi, ha⟩ := st
    obtain ⟨xs, hq, hx⟩ := hg
    obtain ⟨its, rv, p, hz⟩ := I.tuple hq
    have hl := rv.length
    have e : i = its.toArray.size := by
      rw [List.size_toArray]
      omega
    subst e
    exact (goesET (I.ok.hd hc) elts kk tpos n a ha its.toArray).stops s (fun s1 => Inv X pins σ H s1) E ⟨he, hi, p⟩ fun h' tk hk _ => I.turnedL (t' := tk) (fun b o hb e => hk b o hb e) hf
def iET (K : PySem.W.Frag) (ta : TA) : TI := fun σ H R => ta σ H fun vs H1 => ∃ a xs, vs = [.ref a] ∧ SqT K H1 a xs ∧ R (ItET K a) H1
theorem pi_enumT {X : Cx} {e : Expr} {ta : TA} {p pos tpos : Pos} {elts : List Expr} {kk : Nat} (hg : Gl X "enumerate") (hm : X.mg "enumerate" = none) (ha : PA X [e] ta) (hs : starEach [e] X.env = [(false, eval e X.env)] := by rfl) :
    PI X (.Tuple elts kk tpos) (.Call (.Name "enumerate" p) [e] [] pos) (iET X.K ta) := .mk fun pins s σ H R I h =>
  Call_ (ld_blt I hg hm PyProof.Rows.boot_enumerate (PyProof.Rows.callWith_type1 (thn (ha.run pos pins s σ H _ I h) fun us s1 ⟨vs, H1, I1, r1, a, xs, ex, hq, q⟩ => by
    subst ex
    cases r1 with
    | cons r rr =>
      cases rr
      cases r
      obtain ⟨its, rv, p', hz⟩ := I1.tuple hq
      have hlt : a < s1.heap.objs.size := by obtain ⟨o, ho, _⟩ := p'; exact Heap.lt_size ho
      refine enum_begins1 (begins_tuple a its.toArray) p' fun h' he g1 hsz hk => wpAny_pyIter_enum he ?_
      refine ⟨_, [s1.heap.objs.size + 1, s1.heap.objs.size], _, ItET X.K a, H1, rfl, I1.kept (t' := s1.toks) hk, turnET s1.heap.objs.size a, ⟨⟨_, he⟩, ⟨_, g1, rfl, rfl⟩, hlt⟩, fun b hb => ?_, q⟩
      have hle : s1.heap.objs.size ≤ b := by
        have e' : b = s1.heap.objs.size + 1 ∨ b = s1.heap.objs.size := by simpa using hb
        rcases e' with z | z
        · rw [z]; exact Nat.le_add_right _ _
        · rw [z]; exact Nat.le_refl _
      exact I1.fpOk hle (I1.hok.fresh hle)) hs rfl))
section
variable {M : Md} {X : Cx} {k : Nat} {N : List Str} {sc cs : Scope} {δ δ' : Sg} {m : Bool} {Φ Ψ : Da → Prop} {x y : Str} {pos p2 p3 apos : Pos} {e a b o tg it : Expr} {es : List Expr}
theorem di_enumS (S : Sc M X k N sc cs) {elts : List Expr} {kk : Nat} {tpos : Pos} {Φ : List Da → Prop} (hm : M.mg "enumerate" = none) (hg : glB sc "enumerate" = true) (h : DE X e δ fun d => ∃ z, d = .str z ∧ Φ (enumD (chars z)))
    (hs : starEach [e] X.env = (false, eval e X.env) :: starEach [] X.env := by rfl) : DI X (.Tuple elts kk tpos) (.Call (.Name "enumerate" p2) [e] [] pos) δ Φ := .mk fun Bs B Hs H σ o R q =>
  WI.of (pi_enumS (by show X.env.scope.names.lookup _ = _; rw [S.hsc]; exact (glB_ok hg).1) (by rw [S.hmg]; exact hm) (pa_cons pe_W pa_nil hs) (by rw [hs]; rfl)) (h Bs B Hs H σ o _ fun d v Hs1 H1 g ⟨z, e1, p⟩ r => by
    subst e1
    cases r.atom
    have wk : Walk (ItES z) (enumD (chars z)).length (fun _ => True) (YPair (fun i => some (.int (i : Nat))) (fun i => (z.cps[i]?).map fun c => V.str ⟨#[c]⟩)) := by
      rw [enumD_len, chars_len]
      refine ⟨fun i _ hi q => hi, fun _ q => rfl, fun i H v H' _ q y => ?_⟩
      obtain ⟨T, c, h1, h2, h3, h4⟩ := y
      exact ⟨T, _, _, h1, h2, h3, rfl, by dsimp only; rw [h4]; rfl⟩
    refine ⟨z, rfl, q _ _ (fun _ => True) _ Hs1 H1 g p wk (fun _ _ _ _ => True.intro) fun i d Hs2 H2 v H3 s1 s2 hi hy => ?_⟩
    obtain ⟨T, x, y, rfl, hT, rfl, hx, hy⟩ := hy
    dsimp only at hx hy
    obtain ⟨w, hw, rfl⟩ := enumD_get hi
    obtain ⟨c, hc, rfl⟩ := chars_get hw
    rw [hc] at hy
    cases hy
    cases hx
    exact pair_new s2 (.a _) (.a _) hT)
theorem di_enumT (S : Sc M X k N sc cs) {elts : List Expr} {kk : Nat} {tpos : Pos} {Φ : List Da → Prop} (hm : M.mg "enumerate" = none) (hg : glB sc "enumerate" = true) (h : DE X e δ fun d => ∃ l, d = .tup l ∧ Φ (enumD l))
    (hs : starEach [e] X.env = (false, eval e X.env) :: starEach [] X.env := by rfl) : DI X (.Tuple elts kk tpos) (.Call (.Name "enumerate" p2) [e] [] pos) δ Φ := .mk fun Bs B Hs H σ o R q =>
  WI.of (pi_enumT (by show X.env.scope.names.lookup _ = _; rw [S.hsc]; exact (glB_ok hg).1) (by rw [S.hmg]; exact hm) (pa_cons pe_W pa_nil hs) (by rw [hs]; rfl)) (h Bs B Hs H σ o _ fun d v Hs1 H1 g ⟨l, e1, p⟩ r => by
    subst e1
    obtain ⟨a, vs, rfl, ha, ra⟩ := r.tup_inv
    have wk : Walk (ItET X.K a) (enumD l).length (fun H => SqT X.K H a vs) (YPair (fun i => some (.int (i : Nat))) (fun i => vs[i]?)) := by
      rw [enumD_len, ra.len]
      refine ⟨fun i _ hi q => ⟨vs, vs[i], q, by simp [hi]⟩, fun _ q => ⟨vs, q, rfl⟩, fun i H v H' _ q y => ?_⟩
      obtain ⟨T, x, h1, h2, h3, h4⟩ := y
      exact ⟨T, .int (i : Nat), x, h1, h2, h3, rfl, h4 vs q⟩
    refine ⟨a, vs, rfl, .of (g.sub _ _ ha), q _ _ (fun H => SqT X.K H a vs) _ Hs1 H1 g p wk (fun Hs2 H2 s1 s2 => .of (s2 _ _ (s1 _ _ ha))) fun i d Hs2 H2 v H3 s1 s2 hi hy => ?_⟩
    obtain ⟨T, x, y, rfl, hT, rfl, hx, hy⟩ := hy
    dsimp only at hx hy
    obtain ⟨z, hz, rfl⟩ := enumD_get hi
    obtain ⟨v', hv', rv⟩ := ra.get hz
    rw [hy] at hv'
    cases hv'
    cases hx
    exact pair_new s2 (.a _) (rv.mono s1) hT)
theorem RpAll.reps {K : PySem.W.Frag} {H : Hp} {ds : List Da} {vs : List V} (r : RpAll K H ds vs) : ∀ n : Nat, RpAll K H (List.replicate n ds).flatten (List.replicate n vs).flatten
  | 0 => .nil
  | n + 1 => by
    rw [List.replicate_succ, List.replicate_succ, List.flatten_cons, List.flatten_cons]
    exact r.app (r.reps n)
/-- (..) * n -/
theorem de_mulT (h : DE X a δ fun x => DE X b δ fun y => ∃ l i, x = .tup l ∧ y = .int i ∧ l ≠ [] ∧ 2 ≤ i ∧ i ≤ 1000 ∧ l.length ≤ 1000 ∧ Φ (.tup (List.replicate i.toNat l).flatten)) : DM X m (.BinOp a .Mult b pos) δ Φ := de_bin (h.imp fun x hx => hx.imp fun y hy => by
  obtain ⟨l, i, rfl, rfl, hne, h1, h2, h3, p⟩ := hy
  intro Hs H v w e r1 r2 Q q
  obtain ⟨p1, vs, rfl, hp, a1⟩ := r1.tup_inv
  cases r2.atom
  have hl := a1.len
  refine rW_of op_repT ⟨p1, i, vs, rfl, rfl, .of (e _ _ hp), fun z => hne (by rw [z] at hl; exact List.length_eq_zero_iff.mp hl), h1, h2, by omega, fun p' hp' => q _ _ _ _ (Go.new e hp') p ?_⟩
  exact .tup upd_same ((a1.reps _).mono (same_upd (e.free hp'))))
end
end DL

/-! DL16: products of all kinds; slices from the end; places in lists. -/
namespace DL
open PySem PySem.Spec PyProof.Rows L2
def repN (n : Nat) (r : List Nat) : List Nat := (List.replicate n r).flatten
theorem rep_cps (r : List Nat) (n : Nat) : (List.replicate n (tx r).cps).foldl (· ++ ·) #[] = (repN n r).toArray := by
  have key : ∀ (n : Nat) (a : List Nat), (List.replicate n r.toArray).foldl (· ++ ·) a.toArray = (a ++ repN n r).toArray := by
    intro n
    induction n with
    | zero => intro a; simp [repN]
    | succ n ih =>
      intro a
      rw [List.replicate_succ, List.foldl_cons]
      have e : a.toArray ++ r.toArray = (a ++ r).toArray := by simp
      rw [e, ih (a ++ r)]
      unfold repN
      rw [List.replicate_succ, List.flatten_cons, List.append_assoc]
  have := key n []
  rw [List.nil_append] at this
  exact this
theorem repN_len (n : Nat) (r : List Nat) : (repN n r).length = n * r.length := by
  unfold repN
  induction n with
  | zero => simp
  | succ n ih => rw [List.replicate_succ, List.flatten_cons, List.length_append, ih, Nat.succ_mul, Nat.add_comm]
def rMulS : R2 := fun x y H Q => ∃ (r : List Nat) (n : Nat), x = .str (tx r) ∧ y = .int (n : Int) ∧ n ≤ 1000 ∧ r.length ≤ 1000 ∧ Q (.str (tx (repN n r))) H
theorem op_mulS {X : Cx} : OpR X (binaryOp .Mult) rMulS := by
  intro pins s σ H x y v u Q I rx ry h
  obtain ⟨r, n, rfl, rfl, hn, hr, q⟩ := h
  obtain ⟨t, rfl⟩ := rx
  obtain ⟨t2, rfl⟩ := ry
  have hlen : (tx r).length = r.length := by show r.toArray.size = _; simp
  have hmul : r.length * n ≤ 1000000 := Nat.le_trans (Nat.mul_le_mul hr hn) (by decide)
  refine PySem.P.mul_str (by
      have h1 : ¬ ((n : Int) < -(2 ^ 63)) := by omega
      have h2 : ¬ ((n : Int) ≥ 2 ^ 63) := by omega
      rw [decide_eq_false h1, decide_eq_false h2]; rfl) (fun h1 _ => ?_) (fun h1 _ => ?_) ?_
  · rw [hlen]
    have h3 : (1001 : Int) ≤ (2 ^ 63 - 1) / (n : Int) := by
      rw [Int.le_ediv_iff_mul_le (by omega)]
      omega
    omega
  · rw [hlen, Int.toNat_natCast]
    unfold PySem.Builtin.Str.tooLong
    have : sizeLine = 16777216 := sizeLine_eq
    simp
    omega
  · by_cases h1 : (n : Int) < 1
    · rw [if_pos h1]
      have hn0 : n = 0 := by omega
      subst hn0
      exact ⟨by decide, .str (tx []), H, I.tok _, ⟨_, rfl⟩, by have e : repN 0 r = [] := rfl; rw [e] at q; exact q⟩
    · rw [if_neg h1]
      by_cases h2 : (((n : Int) == 1 || (tx r).length == 0) = true)
      · rw [if_pos h2]
        have e : repN n r = r := by
          rw [Bool.or_eq_true] at h2
          rcases h2 with h2 | h2
          · have : n = 1 := by have := eq_of_beq h2; omega
            subst this
            show (List.replicate 1 r).flatten = r
            simp
          · have h3 := eq_of_beq h2
            rw [hlen] at h3
            have : r = [] := List.length_eq_zero_iff.mp h3
            subst this
            unfold repN
            simp
        rw [e] at q
        exact ⟨.str (tx r), H, I, ⟨_, rfl⟩, q⟩
      · rw [if_neg h2, Int.toNat_natCast, rep_cps]
        refine ⟨?_, .str (tx (repN n r)), H, I.tok _, ⟨_, rfl⟩, q⟩
        show (repN n r).toArray.size ≤ sizeLine
        have : sizeLine = 16777216 := sizeLine_eq
        rw [List.size_toArray, repN_len, Nat.mul_comm]
        omega
inductive MulW (Φ : Da → Prop) : Da → Da → Prop
  | int {i j : Int} : (CMul i j ∨ CMulW i j) → Φ (.int (i * j)) → MulW Φ (.int i) (.int j)
  | ib {i : Int} {c : Bool} : Φ (.int (i * b2i c)) → MulW Φ (.int i) (.bl c)
  | str {r : List Nat} {n : Nat} : n ≤ 1000 → r.length ≤ 1000 → Φ (.str (tx (repN n r))) → MulW Φ (.str (tx r)) (.int (n : Int))
  | tup {l : List Da} {i : Int} : l ≠ [] → 2 ≤ i → i ≤ 1000 → l.length ≤ 1000 → Φ (.tup (List.replicate i.toNat l).flatten) → MulW Φ (.tup l) (.int i)
  | lst {l : List Da} {n : Nat} : n ≤ 1000 → l.length ≤ 1000 → Φ (.lst (List.replicate n l).flatten) → MulW Φ (.lst l) (.int (n : Int))
section
variable {M : Md} {X : Cx} {k : Nat} {N : List Str} {sc cs : Scope} {δ δ' : Sg} {m : Bool} {Φ Ψ : Da → Prop} {x y : Str} {pos p2 p3 apos : Pos} {e a b o tg it : Expr} {es : List Expr}
theorem de_mulA (h : DE X a δ fun x => DE X b δ fun y => MulW Φ x y) : DM X m (.BinOp a .Mult b pos) δ Φ := de_bin (h.imp fun x hx => hx.imp fun y hy => by
  cases hy with
  | ib h => exact ow_atom op_mul_ib (fun H Q q => ⟨_, _, rfl, rfl, q⟩) h
  | int hc h =>
    rcases hc with hc | hc
    · exact ow_atom op_mul (fun H Q q => ⟨_, _, rfl, rfl, hc, q⟩) h
    · exact ow_atom op_mulW (fun H Q q => ⟨_, _, rfl, rfl, hc, q⟩) h
  | str h1 h2 h => exact ow_atom op_mulS (fun H Q q => ⟨_, _, rfl, rfl, h1, h2, q⟩) h
  | @tup l i hne h1 h2 h3 p =>
    intro Hs H v w e r1 r2 Q q
    obtain ⟨p1, vs, rfl, hp, a1⟩ := r1.tup_inv
    cases r2.atom
    have hl := a1.len
    refine rW_of op_repT ⟨p1, i, vs, rfl, rfl, .of (e _ _ hp), fun z => hne (by rw [z] at hl; exact List.length_eq_zero_iff.mp hl), h1, h2, by omega, fun p' hp' => q _ _ _ _ (Go.new e hp') p ?_⟩
    exact .tup upd_same ((a1.reps _).mono (same_upd (e.free hp')))
  | @lst l n h1 h2 p =>
    intro Hs H v w e r1 r2 Q q
    obtain ⟨p1, vs, rfl, hp, a1⟩ := r1.lst_inv
    cases r2.atom
    have hl := a1.len
    have hmul : vs.length * n ≤ 1000000 := Nat.le_trans (Nat.mul_le_mul (by omega : vs.length ≤ 1000) h1) (by decide)
    have : sizeLine = 16777216 := sizeLine_eq
    refine rW_of op_rep ⟨p1, (n : Int), vs, rfl, rfl, e _ _ hp, by omega, by omega, by rw [Int.toNat_natCast]; omega, fun p' hp' => ?_⟩
    rw [Int.toNat_natCast]
    exact q _ _ _ _ (Go.new e hp') p (.lst upd_same ((a1.reps _).mono (same_upd (e.free hp')))))
end
theorem cutL_to {α : Type} (l : List α) {j : Int} (h : 0 ≤ j) : cutL l none (some j) = l.take j.toNat := by
  obtain ⟨n, rfl⟩ := Int.eq_ofNat_of_zero_le h
  unfold cutL
  have e0 : HT.sIx l.length 0 none = 0 := rfl
  rw [HT.sIx_nat, e0, List.drop_zero, Nat.sub_zero, Int.toNat_natCast]
  by_cases hn : n ≤ l.length
  · rw [Nat.min_eq_left hn]
  · rw [Nat.min_eq_right (by omega), List.take_of_length_le (Nat.le_refl _), List.take_of_length_le (by omega)]
theorem cutL_from {α : Type} (l : List α) {j : Int} (h : 0 ≤ j) : cutL l (some j) none = l.drop j.toNat := by
  obtain ⟨n, rfl⟩ := Int.eq_ofNat_of_zero_le h
  unfold cutL
  rw [HT.sIx_nat, HT.sIx_none, Int.toNat_natCast, List.take_of_length_le (by rw [List.length_drop]; omega)]
  by_cases hn : n ≤ l.length
  · rw [Nat.min_eq_left hn]
  · rw [Nat.min_eq_right (by omega), List.drop_of_length_le (Nat.le_refl _), List.drop_of_length_le (by omega)]
theorem cutL_mid {α : Type} (l : List α) {i j : Int} (h : 0 ≤ i) (h2 : 0 ≤ j) : cutL l (some i) (some j) = (l.drop i.toNat).take (j.toNat - i.toNat) := by
  obtain ⟨n, rfl⟩ := Int.eq_ofNat_of_zero_le h
  obtain ⟨m, rfl⟩ := Int.eq_ofNat_of_zero_le h2
  unfold cutL
  rw [HT.sIx_nat, HT.sIx_nat, Int.toNat_natCast, Int.toNat_natCast]
  by_cases hn : n ≤ l.length
  · rw [Nat.min_eq_left hn]
    by_cases hm : m ≤ l.length
    · rw [Nat.min_eq_left hm]
    · rw [Nat.min_eq_right (by omega), List.take_of_length_le (by rw [List.length_drop]; omega), List.take_of_length_le (by rw [List.length_drop]; omega)]
  · rw [List.drop_of_length_le (l := l) (i := n) (by omega), List.drop_of_length_le (l := l) (by omega)]
    simp
theorem cutL_neg {α : Type} (l : List α) : cutL l none (some (-1)) = l.dropLast := by
  unfold cutL
  have e0 : HT.sIx l.length 0 none = 0 := rfl
  have e1 : HT.sIx l.length l.length (some (-1)) = l.length - 1 := by
    unfold HT.sIx
    dsimp only
    rw [if_pos (by decide)]
    omega
  rw [e0, e1, List.drop_zero, Nat.sub_zero, List.dropLast_eq_take]
end DL

/-! DL17: isinstance; sorted pairs; comprehensions of two clauses; dict comprehensions by whole numbers; lengths of dicts. -/
namespace DL
open PySem PySem.Spec PyProof.Rows L2
/-! ### isinstance -/
def tyD : Da → String
  | .a .non => "NoneType"
  | .a (.bl _) => "bool"
  | .a (.int _) => "int"
  | .a (.str _) => "str"
  | .lst _ => "list"
  | .tup _ => "tuple"
  | .dk _ => "dict"
  | .dt _ => "dict"
  | _ => "?"
/-- data whose type is known -/
def TyK : Da → Prop
  | .a .non => True
  | .a (.bl _) => True
  | .a (.int _) => True
  | .a (.str _) => True
  | .lst _ => True
  | .tup _ => True
  | .dk _ => True
  | _ => False
theorem tyD_of {K : PySem.W.Frag} {H : Hp} {d : Da} {v : V} (k : TyK d) (r : Rp K H d v) : TyX K H v (.type (tyD d)) := by
  cases r with
  | a v =>
    cases v with
    | non => exact .base .non
    | bl b => exact .base (.bl b)
    | int i => exact .base (.int i)
    | str x => exact .base (.str x)
    | byt b => cases k
    | flt b => cases k
    | ref a => cases k
    | ty n => cases k
  | lst h _ => exact .base (.lst h)
  | tup h _ => exact .base (.tup h)
  | dk h => exact .base (.dK h)
  | dt h => cases k
  | drw h => cases k
  | scr h => cases k
section
variable {M : Md} {X : Cx} {k : Nat} {N : List Str} {sc cs : Scope} {δ δ' : Sg} {m : Bool} {Φ Ψ : Da → Prop} {x y : Str} {pos p2 p3 apos : Pos} {e a b o tg it kx vx : Expr} {es : List Expr} {nx bk ct : Sg → Prop} {rt : Da → Prop}
/-- a built-in class as a value -/
theorem de_ty (S : Sc M X k N sc cs) {T : String} (hm : M.mg x = none) (hg : glB sc x = true) (hv : bootBuiltins x = some (.type T)) (h : Φ (.a (.ty T))) : DM X m (.Name x pos) δ Φ := de_bltn (v := .ty T) S hg hm hv rfl h
theorem bw_isi {d : Da} {T : String} {r : Bool} (k : TyK d) (hk : kitB (tyD d) T = some r) (h : Φ (.bl r)) : BW X (.builtin "isinstance") [d, .a (.ty T)] Φ := fun Hs H vs e rr Q q => by
  cases rr with
  | cons r1 t =>
    cases t with
    | cons r2 t2 =>
      cases t2
      cases r2.atom
      exact rCW_of call_isi ⟨_, _, _, _, r, rfl, .ty T, tyD_of k (r1.mono e), kit_ty hk, q _ _ Hs H (Go.refl e) h (.a _)⟩
/-- isinstance(x, (A, B)) -/
theorem bw_isi2 {d : Da} {T U : String} {r1 r2 : Bool} (k : TyK d) (h1 : kitB (tyD d) T = some r1) (h2 : kitB (tyD d) U = some r2) (h : Φ (.bl (r1 || r2))) : BW X (.builtin "isinstance") [d, .tup [.a (.ty T), .a (.ty U)]] Φ := fun Hs H vs e rr Q q => by
  cases rr with
  | cons q1 t =>
    cases t with
    | cons q2 t2 =>
      cases t2
      obtain ⟨p, ws, rfl, hp, ra⟩ := q2.tup_inv
      have ra2 : RpAll X.K Hs ([V.ty T, V.ty U].map Da.a) ws := ra
      rw [ra2.atoms] at hp
      refine rCW_of call_isiT ⟨_, p, _, _, [.type T, .type U], r1 || r2, rfl, e _ _ hp, .cons (.ty T) (.cons (.ty U) .nil), tyD_of k (q1.mono e), ?_, q _ _ Hs H (Go.refl e) h (.a _)⟩
      refine kitAny_cons (b := r1) (kit_ty h1) (fun z => ?_) (fun z => by rw [z]; rfl)
      refine kitAny_cons (b := r2) (kit_ty h2) (fun z2 => ?_) (fun z2 => by rw [z2]; cases r1 <;> rfl)
      rw [z, z2]
      exact kitAny_nil
theorem bw_lenK {l : List (Key × V)} (h : Φ (.int l.length)) : BW X (.builtin "len") [.dk l] Φ := fun Hs H vs e rr Q q => by
  cases rr with
  | cons r t =>
    cases t
    obtain ⟨a, rfl, ha⟩ := r.dk_inv
    exact rCW_of call_lenD ⟨a, l, rfl, e _ _ ha, q _ _ Hs H (Go.refl e) h (.a _)⟩

/-! ### sorted pairs of whole numbers -/
def encI (p : Int × Int) : Da := .tup [.int p.1, .int p.2]
def ltI (p q : Int × Int) : Prop := p.1 < q.1 ∨ (p.1 = q.1 ∧ p.2 < q.2)
/-- what a tracked pair holds -/
def prOf (H : Hp) (v : V) : Int × Int := match v with
  | .ref t => match H t with
    | some (.tup [.int i, .int j]) => (i, j)
    | _ => (0, 0)
  | _ => (0, 0)
theorem prOf_rp {K : PySem.W.Frag} {H : Hp} {p : Int × Int} {v : V} (r : Rp K H (encI p) v) : prOf H v = p ∧ ∃ t, v = .ref t ∧ H t = some (.tup [.int p.1, .int p.2]) := by
  obtain ⟨t, ws, rfl, ht, ra⟩ := r.tup_inv
  have ra2 : RpAll K H ([V.int p.1, V.int p.2].map Da.a) ws := ra
  rw [ra2.atoms] at ht
  refine ⟨?_, t, rfl, ht⟩
  unfold prOf
  dsimp only
  rw [ht]
theorem prs_rp {K : PySem.W.Frag} {H : Hp} : ∀ {ps : List (Int × Int)} {vs : List V}, RpAll K H (ps.map encI) vs → vs.map (prOf H) = ps ∧ ∀ v ∈ vs, Rp K H (encI (prOf H v)) v
  | [], _, .nil => ⟨rfl, fun v hv => by cases hv⟩
  | p :: ps, _, .cons r t => by
    obtain ⟨h1, h2⟩ := prs_rp t
    obtain ⟨e, _⟩ := prOf_rp r
    refine ⟨by rw [List.map_cons, h1, e], fun v hv => ?_⟩
    rcases List.mem_cons.mp hv with rfl | hv
    · rw [e]; exact r
    · exact h2 v hv
theorem prs_all {K : PySem.W.Frag} {H : Hp} : ∀ {vs : List V}, (∀ v ∈ vs, Rp K H (encI (prOf H v)) v) → RpAll K H ((vs.map (prOf H)).map encI) vs
  | [], _ => .nil
  | v :: vs, h => .cons (h v List.mem_cons_self) (prs_all fun u hu => h u (List.mem_cons_of_mem _ hu))
theorem srt_uniq {qs rs : List (Int × Int)} (hp : qs.Perm rs) (h1 : qs.Pairwise ltI) (h2 : rs.Pairwise fun p q => ¬ ltI q p) : qs = rs := by
  induction qs generalizing rs with
  | nil => exact (List.Perm.eq_nil hp.symm).symm
  | cons q qs ih =>
    cases rs with
    | nil => exact absurd hp.length_eq (by simp)
    | cons r rs =>
      have a := List.pairwise_cons.mp h1
      have b := List.pairwise_cons.mp h2
      have e : q = r := by
        rcases List.mem_cons.mp (hp.mem_iff.mp (List.mem_cons_self (a := q) (l := qs))) with e | hq
        · exact e
        · rcases List.mem_cons.mp (hp.mem_iff.mpr (List.mem_cons_self (a := r) (l := rs))) with e | hr
          · exact e.symm
          · exact absurd (a.1 r hr) (b.1 q hq)
      subst e
      rw [ih hp.cons_inv a.2 b.2]
theorem bw_sortP {ps qs : List (Int × Int)} (hp : qs.Perm ps) (hs : qs.Pairwise ltI) (h : Φ (.lst (qs.map encI))) : BW X (.builtin "sorted") [.lst (ps.map encI)] Φ := fun Hs H vs e rr Q q => by
  cases rr with
  | cons r t =>
    cases t
    obtain ⟨a, ws, rfl, ha, ra⟩ := r.lst_inv
    obtain ⟨h1, h2⟩ := prs_rp ra
    refine rCW_of cr_sortedPO ⟨a, ws, prOf Hs, rfl, .of (e _ _ ha), fun x hx => ?_, fun ys p sy st hH => ?_⟩
    · obtain ⟨t, e2, e3⟩ := (prOf_rp (h2 x hx)).2
      exact ⟨t, e2, e _ _ e3⟩
    · have eq : qs = ys.map (prOf Hs) := by
        refine srt_uniq ?_ hs ?_
        · rw [← h1] at hp
          exact hp.trans (st.perm.symm.map _)
        · rw [List.pairwise_map]
          exact List.Pairwise.imp (fun {x y} hxy => SrtO.lexB_no.mp hxy) sy
      have hq : RpAll X.K Hs (qs.map encI) ys := by
        rw [eq]
        exact prs_all fun v hv => h2 v (st.perm.mem_iff.mp hv)
      exact q _ _ _ _ (Go.new e hH) h (.lst upd_same (hq.mono (same_upd (e.free hH))))
end
end DL

/-! DL18: list comprehensions of two clauses over data. -/
namespace DL
open PySem PySem.Spec PyProof.Rows L2
section
variable {M : Md} {X : Cx} {k : Nat} {N : List Str} {sc cs : Scope} {δ δ' : Sg} {m : Bool} {Φ Ψ : Da → Prop} {x y : Str} {pos p2 p3 apos : Pos} {e a b o tg it tg1 it1 : Expr} {es : List Expr} {nx bk ct : Sg → Prop} {rt : Da → Prop} {scope : Scope} {os0 os os1 : List Str}
theorem yesT {σ : L2.St} {H : Hp} {A B : Hp → Prop} (h : A H) : tYes σ H (fun b H3 => if b = true then A H3 else B H3) := by
  unfold tYes
  exact h
/-- no slot holds an own object -/
def noOwn (δ : Sg) : Bool := δ.all fun s => match s with
  | some s => !s.own
  | none => true
theorem noOwn_no {δ : Sg} (h : noOwn δ = true) {i : Nat} {s : SD} (e : δ[i]? = some (some s)) : s.own = false := by
  have := List.all_eq_true.mp h (some s) (List.mem_of_getElem? e)
  simpa using this
def WIb (X : Cx) (scope : Scope) (tg it : Expr) : TI := fun σ H R => ∀ s H0 C cl fp, WI (X.blk s H0 scope (compEnvC scope cl C X.env) fp) tg it σ H R
theorem pib_W {tg it : Expr} (s : Shared) (H0 : Hp) (C : Addr) (cl : List (Str × Addr)) (fp : List Addr) : PI (X.blk s H0 scope (compEnvC scope cl C X.env) fp) tg it (WIb X scope tg it) := ⟨fun pins s' σ H R I h => h s H0 C cl fp pins s' I⟩
/-- what is shown of [e for tg in .. for tg1 in it1] -/
def Lc2D (M : Md) (k : Nat) (N : List Str) (sc : Scope) (scope : Scope) (tg tg1 it1 e : Expr) (os0 os os1 : List Str) (δ : Sg) (ds : List Da) (Φ : Da → Prop) : Prop :=
  ∃ (δw : Sg) (P : Nat → List Da → Prop), Wp N os δ δw ∧ P 0 [] ∧
    (∀ X', Sc M X' k N (relS scope sc) scope → ∀ i d acc, ds[i]? = some d → P i acc → DG X' tg os0 d δw fun δ2 => noOwn δ2 = true ∧ ∃ δ2w, Wp N os1 δ2 δ2w ∧ ∀ X', Sc M X' k N (relS scope sc) scope → DI X' tg1 it1 δ2 fun ds1 =>
      ∃ P1 : Nat → List Da → Prop, P1 0 acc ∧ (∀ X', Sc M X' k N (relS scope sc) scope → ∀ j d1 acc1, ds1[j]? = some d1 → P1 j acc1 → acc1.length < 1000000 ∧ DG X' tg1 os1 d1 δ2w fun δ3 => ∀ X', Sc M X' k N (relS scope sc) scope → DE X' e δ3 fun y => P1 (j + 1) (acc1 ++ [y])) ∧
        ∀ acc1, P1 ds1.length acc1 → P (i + 1) acc1) ∧
    ∀ acc, P ds.length acc → Φ (.lst acc)
theorem lc2_run (S : Sc M X k N sc cs) (kind : scope.kind = .function) (hn0 : ∀ x ∈ os0, x ∈ os) (h : DI X tg it δ fun ds => Lc2D M k N sc scope tg tg1 it1 e os0 os os1 δ ds Φ) {Bs B Hs H : Hp} {σ : L2.St} (o : Ok X.K Bs B Hs H σ δ) {Q : VK}
    (q : ∀ d v Hs' H', Go Hs H Hs' H' → Φ d → Rp X.K Hs' d v → Q v H') : tLc2 (WI X tg it) (WGb X scope tg) (WTb X scope []) (WIb X scope tg1 it1) (WGb X scope tg1) (WTb X scope []) (WEb X scope e) ((ownOf N os).map (·.2)) ((ownOf N os1).map (·.2)) σ H Q := by
  have nd := S.nd
  have sz : sizeLine = 16777216 := sizeLine_eq
  refine h Bs B Hs H σ o _ fun ds J G Y Hs1 H1 g1 ⟨δw, P, hw, p0, step, fin⟩ wk hG hY D hD => ?_
  have oD : ∀ (i : Nat) (s : SD) (q : Addr), δ[i]? = some (some s) → s.own = true → σ[i]? = some (some (.ref q)) → q ≠ D := fun i s q e w h z => (o.mono g1).ownAt e w h (by rw [z]; exact hD)
  have hD0 : H D = none := g1.hh.free hD
  have hB : B D = none := o.go.hh.free hD0
  refine ⟨fun i m H2 => m = ds.length - i ∧ i ≤ ds.length ∧ ∃ Hs2 acc vs, Go Hs H Hs2 H2 ∧ Same Hs1 Hs2 ∧ Ok X.K Bs B Hs2 H2 σ δ ∧ Hs2 D = none ∧ H2 D = some (.lst vs) ∧ RpAll X.K Hs2 acc vs ∧ P i acc,
    ⟨_, rfl, Nat.zero_le _, Hs1, [], [], g1.trans (Go.own g1.sub hD), Same.refl _, (o.mono g1).mono (Go.own g1.sub hD), g1.sub.free hD, upd_same, .nil, p0⟩, ?_⟩
  rintro i m H2 ⟨rfl, hi, Hs2, acc, vs, g2, s2, o2, hDs, hDv, ra, pi⟩
  by_cases hlt : i < ds.length
  · refine .inr ⟨wk.goes i H2 hlt (hG Hs2 H2 s2 o2.sub), fun H' => ∃ Hs2 acc vs, Go Hs H Hs2 H' ∧ Same Hs1 Hs2 ∧ Ok X.K Bs B Hs2 H' σ δ ∧ Hs2 D = none ∧ H' D = some (.lst vs) ∧ RpAll X.K Hs2 acc vs ∧ P (i + 1) acc, fun H' p' => ⟨ds.length - (i + 1), by omega, rfl, hlt, p'⟩, fun x H3 hy => ?_⟩
    have hy := wk.yields i H2 x H3 hlt (hG Hs2 H2 s2 o2.sub) hy
    intro s H0 C cl fp pins s' u I r
    obtain ⟨d, hd⟩ : ∃ d, ds[i]? = some d := ⟨ds[i], by simp [hlt]⟩
    obtain ⟨Hs3, g3, rd⟩ := hY i d Hs2 H2 x H3 s2 o2.sub hd hy
    have hsl : σ.length = N.length := by
      have := I.len
      rw [wipe_length] at this
      rw [this]
      exact congrArg List.length S.n
    have nDs : ∀ {Hs' H' : Hp}, Go Hs2 H2 Hs' H' → Hs' D = none := fun g => g.no D (by rw [hDv]; exact fun z => nomatch z) hDs
    refine step (X.blk s H0 scope (compEnvC scope cl C X.env) fp) (S.blk kind) i d acc hd pi Bs B Hs3 H3 _ x ((o2.mono g3).wipe nd hw) rd _ (fun δ2 σ2 Hs4 H4 o4 g4 kp ⟨no, δ2w, hw2, hi1⟩ => ?_) pins s' u I r
    have kp' : Keep N os0 (L2.wipe σ ((ownOf N os).map (·.2))) σ2 := by have z : Keep X.N os0 _ σ2 := kp; rwa [S.n] at z
    have hsl2 : σ2.length = N.length := by rw [kp'.1, wipe_length, hsl]
    refine ⟨wipe_keep nd hsl kp' hn0, fun s H0 C cl fp pins s' I => WTs.of pts_nil (yesT ?_) pins s' I⟩
    intro s H0 C cl fp pins s' I
    refine hi1 (X.blk s H0 scope (compEnvC scope cl C X.env) fp) (S.blk kind) Bs B Hs4 H4 σ2 o4 _ (fun ds1 J1 G1 Y1 Hs5 H5 g5 ⟨P1, q0, step1, fin1⟩ wk1 hG1 hY1 => ?_) pins s' I
    have g35 := (g3.trans g4).trans g5
    have o2D : ∀ (i : Nat) (s : SD) (q : Addr), δ2[i]? = some (some s) → s.own = true → σ2[i]? = some (some (.ref q)) → q ≠ D := fun i s q e w h => by rw [noOwn_no no e] at w; cases w
    refine ⟨fun j m H6 => m = ds1.length - j ∧ j ≤ ds1.length ∧ ∃ Hs6 acc1 ws, Go Hs H Hs6 H6 ∧ Same Hs5 Hs6 ∧ Ok X.K Bs B Hs6 H6 σ δ ∧ Ok X.K Bs B Hs6 H6 σ2 δ2 ∧ Hs6 D = none ∧ H6 D = some (.lst ws) ∧ RpAll X.K Hs6 acc1 ws ∧ P1 j acc1,
      ⟨_, rfl, Nat.zero_le _, Hs5, acc, vs, g2.trans g35, Same.refl _, o2.mono g35, o4.mono g5, nDs g35, g35.hh _ _ hDv, ra.mono g35.ss, q0⟩, ?_⟩
    rintro j m H6 ⟨rfl, hj, Hs6, acc1, ws, g6, s6, o6, o26, hDs6, hDv6, ra6, pj⟩
    by_cases hlt1 : j < ds1.length
    · refine .inr ⟨wk1.goes j H6 hlt1 (hG1 Hs6 H6 s6 o26.sub), fun H' => ∃ Hs6 acc1 ws, Go Hs H Hs6 H' ∧ Same Hs5 Hs6 ∧ Ok X.K Bs B Hs6 H' σ δ ∧ Ok X.K Bs B Hs6 H' σ2 δ2 ∧ Hs6 D = none ∧ H' D = some (.lst ws) ∧ RpAll X.K Hs6 acc1 ws ∧ P1 (j + 1) acc1, fun H' p' => ⟨ds1.length - (j + 1), by omega, rfl, hlt1, p'⟩, fun x1 H7 hy1 => ?_⟩
      have hy1 := wk1.yields j H6 x1 H7 hlt1 (hG1 Hs6 H6 s6 o26.sub) hy1
      intro s H0 C cl fp pins s' u I r
      obtain ⟨d1, hd1⟩ : ∃ d1, ds1[j]? = some d1 := ⟨ds1[j], by simp [hlt1]⟩
      obtain ⟨Hs7, g7, rd1⟩ := hY1 j d1 Hs6 H6 x1 H7 s6 o26.sub hd1 hy1
      have nD6 : ∀ {Hs' H' : Hp}, Go Hs6 H6 Hs' H' → Hs' D = none := fun g => g.no D (by rw [hDv6]; exact fun z => nomatch z) hDs6
      obtain ⟨hb, stp⟩ := step1 (X.blk s H0 scope (compEnvC scope cl C X.env) fp) (S.blk kind) j d1 acc1 hd1 pj
      refine stp Bs B Hs7 H7 _ x1 ((o26.mono g7).wipe nd hw2) rd1 _ (fun δ3 σ3 Hs8 H8 o8 g8 kp3 he => ?_) pins s' u I r
      have kp3' : Keep N os1 (L2.wipe σ2 ((ownOf N os1).map (·.2))) σ3 := by have z : Keep X.N os1 _ σ3 := kp3; rwa [S.n] at z
      refine ⟨wipe_keep nd hsl2 kp3' fun _ z => z, fun s H0 C cl fp pins s' I => WTs.of pts_nil (yesT ?_) pins s' I⟩
      intro s H0 C cl fp pins s' I
      refine he (X.blk s H0 scope (compEnvC scope cl C X.env) fp) (S.blk kind) Bs B Hs8 H8 σ3 o8 _ (fun y v Hs9 H9 g9 p9 r9 => ?_) pins s' I
      have g79 := (g7.trans g8).trans g9
      have hl := ra6.len
      exact ⟨ws, g79.hh _ _ hDv6, by omega, Hs9, acc1 ++ [y], ws ++ [v], (g6.trans g79).mut hD0 (nD6 g79), s6.trans g79.ss, (o6.mono g79).other (nD6 g79) hB oD, (o26.mono g79).other (nD6 g79) hB o2D, nD6 g79, upd_same, (ra6.mono g79.ss).app (.cons r9 .nil), p9⟩
    · obtain rfl : j = ds1.length := by omega
      exact .inl ⟨wk1.stops H6 (hG1 Hs6 H6 s6 o26.sub), Hs6, acc1, ws, g6, s2.trans (g35.ss.trans s6), o6, hDs6, hDv6, ra6, fin1 acc1 pj⟩
  · obtain rfl : i = ds.length := by omega
    exact .inl ⟨wk.stops H2 (hG Hs2 H2 s2 o2.sub), q _ _ _ _ (g2.freeze hD0 hDs hDv) (fin acc pi) (.lst upd_same (ra.mono (same_upd hDs)))⟩
theorem de_lc2 (S : Sc M X k N sc cs) (h : DI X tg it δ fun ds => Lc2D M k N sc scope tg tg1 it1 e os0 os os1 δ ds Φ) (hk : blkB N sc scope os = true) (hn0 : ∀ x ∈ os0, x ∈ os) (hn1 : ∀ x ∈ os1, x ∈ os)
    (hs : ∀ x, foldedSetIterable it X.env x = pure x := by intro _; rfl) (hs1 : ∀ env x, foldedSetIterable it1 env x = pure x := by intro _ _; rfl) : DM X m (.ListComp e [⟨tg, it, [], 0⟩, ⟨tg1, it1, [], 0⟩] scope pos) δ Φ := DM.of <| .mk fun Bs B Hs H σ o Q q => by
  have ok : BlkOk X.N X.env.scope scope (ownOf N os) := by rw [S.n, S.hsc]; exact blkOk_by hk
  have hv : ∀ i ∈ (ownOf N os1).map (·.2), i ∈ (ownOf N os).map (·.2) := fun i hi => by
    unfold ownOf at hi ⊢
    rw [List.map_map] at hi ⊢
    obtain ⟨z, hz, rfl⟩ := List.mem_map.mp hi
    exact List.mem_map.mpr ⟨z, hn1 z hz, rfl⟩
  exact WE.of (pe_lc2 S.calm (by rw [S.n]; exact S.nd) pi_W ok hv pgb_W ptb_W pib_W pgb_W ptb_W peb_W hs hs1) (lc2_run S ok.kind hn0 h o q)
/-- [f(a, b) for a in l for b in m(a)] -/
theorem lc2_map {α β : Type} {l : List α} {g : α → Da} {mm : α → List β} {g1 : α → β → Da} {f : α → β → Da} {δw : Sg} (hw : Wp N os δ δw) (hz : (l.flatMap mm).length ≤ 1000000)
    (h : ∀ X', Sc M X' k N (relS scope sc) scope → ∀ a ∈ l, DG X' tg os0 (g a) δw fun δ2 => noOwn δ2 = true ∧ ∃ δ2w, Wp N os1 δ2 δ2w ∧ ∀ X', Sc M X' k N (relS scope sc) scope → DI X' tg1 it1 δ2 fun ds1 => ds1 = (mm a).map (g1 a) ∧
      ∀ X', Sc M X' k N (relS scope sc) scope → ∀ b ∈ mm a, DG X' tg1 os1 (g1 a b) δ2w fun δ3 => ∀ X', Sc M X' k N (relS scope sc) scope → DE X' e δ3 fun y => y = f a b)
    (fin : Φ (.lst (l.flatMap fun a => (mm a).map (f a)))) : Lc2D M k N sc scope tg tg1 it1 e os0 os os1 δ (l.map g) Φ := by
  have hlen : ∀ l : List α, (l.flatMap fun a => (mm a).map (f a)).length = (l.flatMap mm).length := fun l => by
    rw [List.length_flatMap, List.length_flatMap]
    simp
  refine ⟨δw, fun i acc => acc = (l.take i).flatMap fun a => (mm a).map (f a), hw, rfl, fun X' S' i d acc hi hp => ?_, fun acc hp => ?_⟩
  · rw [List.getElem?_map] at hi
    obtain ⟨a, ha, rfl⟩ := Option.map_eq_some_iff.mp hi
    have hil := (List.getElem?_eq_some_iff.mp ha).1
    have hd := h X' S' a (List.mem_of_getElem? ha)
    have et : l.take (i + 1) = l.take i ++ [a] := by rw [List.take_add_one, ha]; rfl
    have hsplit : l = l.take i ++ (a :: l.drop (i + 1)) := by
      rw [← (List.getElem?_eq_some_iff.mp ha).2, ← List.drop_eq_getElem_cons hil, List.take_append_drop]
    have hb0 : ((l.take i).flatMap mm).length + (mm a).length ≤ 1000000 := by
      have e2 := congrArg (fun z => (z.flatMap mm).length) hsplit
      simp only [List.flatMap_append, List.flatMap_cons, List.length_append] at e2
      omega
    refine .mk fun Bs B Hs H σ v o r Q q => hd Bs B Hs H σ v o r Q fun δ' σ' Hs' H' o' g' kp ⟨h1, δ2w, h2, h3⟩ => q δ' σ' Hs' H' o' g' kp ⟨h1, δ2w, h2, fun X2 S2 => ?_⟩
    refine .mk fun Bs B Hs H σ o R q => (h3 X2 S2) Bs B Hs H σ o R fun ds1 J G Y Hs' H' g' ⟨e1, stp⟩ wk hG hY => q ds1 J G Y Hs' H' g' ?_ wk hG hY
    subst e1
    refine ⟨fun j acc1 => acc1 = acc ++ ((mm a).take j).map (f a), by simp, fun X3 S3 j d1 acc1 hj hp1 => ?_, fun acc1 hp1 => ?_⟩
    · rw [List.getElem?_map] at hj
      obtain ⟨b, hb, rfl⟩ := Option.map_eq_some_iff.mp hj
      have hjl := (List.getElem?_eq_some_iff.mp hb).1
      refine ⟨?_, ?_⟩
      · rw [hp1, hp, List.length_append, hlen, List.length_map, List.length_take]
        omega
      · have hd2 := stp X3 S3 b (List.mem_of_getElem? hb)
        refine .mk fun Bs B Hs H σ v o r Q q => hd2 Bs B Hs H σ v o r Q fun δ' σ' Hs' H' o' g' kp h5 => q δ' σ' Hs' H' o' g' kp fun X4 S4 => (h5 X4 S4).imp fun y ey => ?_
        dsimp only
        rw [ey, hp1, List.take_add_one, hb, Option.toList_some, List.map_append, List.append_assoc]
        rfl
    · have e3 : ((mm a).map (g1 a)).length = (mm a).length := by simp
      rw [e3, List.take_length] at hp1
      dsimp only
      rw [hp1, hp, et, List.flatMap_append]
      simp
  · rw [List.length_map, List.take_length] at hp
    rw [hp]
    exact fin
end
end DL

/-! DL19: dict comprehensions of two clauses (no tests), at the level of the machine. -/
namespace DL
open PySem PySem.Spec PyProof.Rows L2
abbrev dcE (kx vx t0 i0 t1 i1 : Expr) (scope : Scope) (pos : Pos) : Expr := .DictComp kx vx [⟨t0, i0, [], 0⟩, ⟨t1, i1, [], 0⟩] scope pos
theorem dcT0 (kx vx t0 i0 t1 i1 : Expr) (scope : Scope) (pos : Pos) (it acc : Value) (env : Env) : compTurn (dcE kx vx t0 i0 t1 i1 scope pos) 0 it acc env = (do
    standAt i0.pos
    match ← pyNext it with
    | none => pure (.done .next)
    | some a => do
      letOwnedTupleGo t0 it a
      assign t0 env a
      let src ← eval i1 env
      standAt i1.pos
      let src ← foldedSetIterable i1 env src
      let _ ← runOwn (.compStart (dcE kx vx t0 i0 t1 i1 scope pos) 1 (← holding [src] (pyIter src)) acc env) env
      again (.compLoop (dcE kx vx t0 i0 t1 i1 scope pos) 0 it acc env)) := by rfl
theorem dcT1 (kx vx t0 i0 t1 i1 : Expr) (scope : Scope) (pos : Pos) (it : Value) (D : Addr) (env : Env) : compTurn (dcE kx vx t0 i0 t1 i1 scope pos) 1 it (.ref D) env = (do
    standAt i1.pos
    match ← pyNext it with
    | none => pure (.done .next)
    | some a => do
      letOwnedTupleGo t1 it a
      assign t1 env a
      (do
        let kw ← eval kx env
        let vw ← holding [kw] (eval vx env)
        standAt { kx.pos with endLine := vx.pos.endLine, endCol := vx.pos.endCol }
        holding [kw, vw] (dictSet D kw vw))
      again (.compLoop (dcE kx vx t0 i0 t1 i1 scope pos) 1 it (.ref D) env)) := by rfl
section
variable {prog : Program} {w : World} {A : Around} {R : Result → Shared → Prop} {s : Shared} {kx vx t0 i0 t1 i1 : Expr} {scope : Scope} {pos : Pos} {it acc : Value} {D : Addr} {env : Env}
abbrev errR (prog : Program) (w : World) (A : Around) (env : Env) (R : Result → Shared → Prop) : Value → Shared → Prop := notedBy (model prog w) A env fun e s' => R (.error e) s'
abbrev back0 (J : Nat → Shared → Prop) (n : Nat) (s : Shared) : Prop := ∃ j, j < n ∧ J j s
theorem dcL0 (hs1 : ∀ x, foldedSetIterable i1 env x = pure x) (J : Nat → Shared → Prop)
    (go : ∀ n s, J n s → wpAny (model prog w) A (pyNext it) (fun r s1 => match r with
      | none => R (.ok .next) s1
      | some a => wpAny (model prog w) A (letOwnedTupleGo t0 it a) (fun _ s2 => wpAny (model prog w) A (assign t0 env a) (fun _ s3 => wpAny (model prog w) A (eval i1 env) (fun src s4 => wpAny (model prog w) A (pyIter src) (fun jt s5 =>
          codeAny (model prog w) A (.compStart (dcE kx vx t0 i0 t1 i1 scope pos) 1 jt acc env) (fun r s' => match r with
            | .ok _ => back0 J n s'
            | .error _ => False) s5) (errR prog w A env R) s4) (errR prog w A env R) s3) (errR prog w A env R) s2) (errR prog w A env R) s1) (errR prog w A env R) s)
    (n : Nat) (h : J n s) : codeAny (model prog w) A (.compLoop (dcE kx vx t0 i0 t1 i1 scope pos) 0 it acc env) R s := by
  refine codeAny_loop rfl J (fun n s hJ => ?_) n h
  show wpAny _ A ((compTurn (dcE kx vx t0 i0 t1 i1 scope pos) 0 it acc env).onRaise (fun z => do noteFrame z env; theTreesLotGoes z)) _ _ s
  refine wpAny_noted ?_
  rw [dcT0]
  refine wpAny_bind (wpAny_standAt (wpAny_bind (wpAny_mono (go n s hJ) (fun r s1 q1 => ?_) fun _ _ z => z)))
  cases r with
  | none => exact wpAny_pure q1
  | some a =>
    refine wpAny_bind (wpAny_mono q1 (fun _ s2 q2 => wpAny_bind (wpAny_mono q2 (fun _ s3 q3 => wpAny_bind (wpAny_mono q3 (fun src s4 q4 => ?_) fun _ _ z => z)) fun _ _ z => z)) fun _ _ z => z)
    refine wpAny_bind (wpAny_standAt (wpAny_bind (wpAny_of_eq (hs1 src) (wpAny_bind (wpAny_holding (wpAny_mono q4 (fun jt s5 q5 => wpAny_bind (wpAny_runOwn ?_)) fun _ _ z => z))))))
    rw [Around.mark_none]
    refine codeAny_mono q5 fun r s' hr => ?_
    cases r with
    | error e => exact hr.elim
    | ok f =>
      first
        | exact wpAny_bind (wpAny_pure (wpAny_pure ⟨rfl, hr⟩))
        | exact wpAny_pure ⟨rfl, hr⟩
theorem dcL1 (J : Nat → Shared → Prop)
    (go : ∀ n s, J n s → wpAny (model prog w) A (pyNext it) (fun r s1 => match r with
      | none => R (.ok .next) s1
      | some a => wpAny (model prog w) A (letOwnedTupleGo t1 it a) (fun _ s2 => wpAny (model prog w) A (assign t1 env a) (fun _ s3 => wpAny (model prog w) A (eval kx env) (fun kw s4 => wpAny (model prog w) A (eval vx env) (fun vw s5 =>
          wpAny (model prog w) A (dictSet D kw vw) (fun _ s6 => back0 J n s6) (errR prog w A env R) s5) (errR prog w A env R) s4) (errR prog w A env R) s3) (errR prog w A env R) s2) (errR prog w A env R) s1) (errR prog w A env R) s)
    (n : Nat) (h : J n s) : codeAny (model prog w) A (.compLoop (dcE kx vx t0 i0 t1 i1 scope pos) 1 it (.ref D) env) R s := by
  refine codeAny_loop rfl J (fun n s hJ => ?_) n h
  show wpAny _ A ((compTurn (dcE kx vx t0 i0 t1 i1 scope pos) 1 it (.ref D) env).onRaise (fun z => do noteFrame z env; theTreesLotGoes z)) _ _ s
  refine wpAny_noted ?_
  rw [dcT1]
  refine wpAny_bind (wpAny_standAt (wpAny_bind (wpAny_mono (go n s hJ) (fun r s1 q1 => ?_) fun _ _ z => z)))
  cases r with
  | none => exact wpAny_pure q1
  | some a =>
    refine wpAny_bind (wpAny_mono q1 (fun _ s2 q2 => wpAny_bind (wpAny_mono q2 (fun _ s3 q3 => ?_) fun _ _ z => z)) fun _ _ z => z)
    exact wpAny_bind (wpAny_bind (wpAny_mono q3 (fun kw s4 q4 => wpAny_bind (wpAny_holding (wpAny_mono q4 (fun vw s5 q5 => wpAny_bind (wpAny_standAt (wpAny_holding (wpAny_mono q5 (fun _ s6 q6 => wpAny_pure ⟨rfl, q6⟩) fun _ _ z => z)))) fun _ _ z => z))) fun _ _ z => z))
theorem dcS1 (h0 : codeAny (model prog w) A (.compLoop (dcE kx vx t0 i0 t1 i1 scope pos) 1 it acc env) R s)
    (h : wpAny (model prog w) A (pyIter it) (fun jt s' => codeAny (model prog w) A (.compLoop (dcE kx vx t0 i0 t1 i1 scope pos) 1 jt acc env) R s') (errR prog w A env R) s) :
    codeAny (model prog w) A (.compStart (dcE kx vx t0 i0 t1 i1 scope pos) 1 it acc env) R s := by
  refine codeAny_of_tree ?_
  show wpAny _ _ ((compStart (dcE kx vx t0 i0 t1 i1 scope pos) 1 it acc env).onRaise (fun z => do noteFrame z env; standAt theWindowsPlace)) _ _ s
  refine wpAny_notedAt ?_
  unfold compStart
  show wpAny _ _ (ask >>= _) _ _ s
  refine wpAny_bind (wpAny_askSetting (wpAny_ite ?_))
  split
  · first
      | exact wpAny_bind (wpAny_pure (wpAny_pure ⟨rfl, h0⟩))
      | exact wpAny_pure ⟨rfl, h0⟩
  · first
      | exact wpAny_bind (wpAny_rule (wpAny_bind (wpAny_standAt (wpAny_bind (wpAny_mono h (fun jt s' q => wpAny_pure ⟨rfl, q⟩) fun _ _ z => z)))))
      | (refine wpAny_bind (wpAny_rule ?_); show wpAny _ _ (standAt i1.pos >>= _) _ _ s; exact wpAny_bind (wpAny_standAt (wpAny_bind (wpAny_mono h (fun jt s' q => wpAny_pure ⟨rfl, q⟩) fun _ _ z => z))))
end
end DL

/-! DL20: dict comprehensions of two clauses as readings; dict comprehensions over data. -/
namespace DL
open PySem PySem.Spec PyProof.Rows L2
section
variable {X : Cx}
/-- a store into the new dict at D turns it into ho -/
def Put (X : Cx) (D : Addr) (y z : V) (H : Hp) (ho : HO) : Prop := ∀ (pins : List (Addr × Obj)) (σ : L2.St) (s : Shared) (E : Value → Shared → Prop) (u r : Value) (R : Unit → Shared → Prop), Inv X pins σ H s → RelV y u → RelV z r → (∀ s', Inv X pins σ (upd H D ho) s' → R () s') →
  wpAny (model X.prog X.w) X.A (dictSet D u r) R E s
/-- .. in every block around the same -/
def PutA (X : Cx) (D : Addr) (y z : V) (H : Hp) (ho : HO) : Prop := ∀ X' : Cx, X'.A = X.A → Put X' D y z H ho
theorem putA_k {D : Addr} {kvs : List (Key × V)} {k : Key} {z : V} {H : Hp} (hD : H D = some (.dK kvs)) (hz : kvs.length < sizeLine) : PutA X D (kV k) z H (.dK (putK kvs k z)) :=
  fun X' _ pins σ s E u r R I ry rz q => d_dictSet I hD hz ry rz q
theorem putA_t {D b : Addr} {kvs : List (List Key × V)} {k : List Key} {z : V} {H : Hp} (hu : X.A.units + 1 < cLine) (hD : H D = some (.dT kvs)) (hb : H b = some (.tup (k.map kV))) (hz : kvs.length < sizeLine) : PutA X D (.ref b) z H (.dT (putK kvs k z)) :=
  fun X' hA pins σ s E u r R I ry rz q => by
    cases ry
    exact put_tup (by rw [hA]; exact hu) I hD hb hz rz q
/-- what is asked of {k: v for tg in it for tg1 in it1}; ho0 the empty dict -/
def tDc2 (X : Cx) (ho0 : HO) (wi : TI) (g : TG) (wi1 : TI) (g1 : TG) (tk tv : TE) (vs vs1 : List Nat) : TE := fun σ H Q => wi σ H fun J H1 => ∀ D, H1 D = none → ∃ W : Nat → Nat → Hp → Prop, (∃ m, W 0 m (upd H1 D ho0)) ∧
  ∀ i m H, W i m H → (J.stop i H ∧ Q (.ref D) H) ∨ (J.go i H ∧ ∃ Z : Hp → Prop, (∀ H', Z H' → ∃ j, j < m ∧ W (i + 1) j H') ∧ ∀ x H', J.yld i H x H' → g x (L2.wipe σ vs) H' fun σ2 H2 => L2.wipe σ2 vs = L2.wipe σ vs ∧
    wi1 σ2 H2 fun J1 H4 => ∃ W1 : Nat → Nat → Hp → Prop, (∃ m, W1 0 m H4) ∧ ∀ j k H, W1 j k H →
      (J1.stop j H ∧ Z H) ∨ (J1.go j H ∧ ∃ Z1 : Hp → Prop, (∀ H', Z1 H' → ∃ l, l < k ∧ W1 (j + 1) l H') ∧ ∀ x H', J1.yld j H x H' → g1 x (L2.wipe σ2 vs1) H' fun σ3 H5 => L2.wipe σ3 vs1 = L2.wipe σ2 vs1 ∧
        tk σ3 H5 fun y H6 => tv σ3 H6 fun z H7 => ∃ ho, PutA X D y z H7 ho ∧ Z1 (upd H7 D ho)))
theorem dc2_core {ho0 : HO} {pins : List (Addr × Obj)} {s : Shared} {σ : L2.St} {H : Hp} {Q : VK} {kx vx t0 i0 t1 i1 : Expr} {scope : Scope} {own : List (Str × Nat)} {vs1 : List Nat} {pos pos' : Pos} {wi wi1 : TI} {g g1 : TG} {tk tv : TE} {use : Option (Value → Sem Unit)} {Qf : Value → Shared → Prop}
    (hempty : ∀ (H : Hp) (h : Heap), sysModules < h.objs.size → ObjOk X.prog X.w H (h.push { cls := .type "dict", data := .dict #[] }) h.objs.size ho0)
    (hc : X.calm = true) (hN : X.N.Nodup) (I : Inv X pins σ H s) (hi : PI X t0 i0 wi) (ok : BlkOk X.N X.env.scope scope own) (hv : ∀ i ∈ vs1, i ∈ own.map (·.2))
    (hg : ∀ (s : Shared) (H : Hp) (C : Addr) (cl : List (Str × Addr)) (fp : List Addr), PG (X.blk s H scope (compEnvC scope cl C X.env) fp) t0 g)
    (hi1 : ∀ (s : Shared) (H : Hp) (C : Addr) (cl : List (Str × Addr)) (fp : List Addr), PI (X.blk s H scope (compEnvC scope cl C X.env) fp) t1 i1 wi1)
    (hg1 : ∀ (s : Shared) (H : Hp) (C : Addr) (cl : List (Str × Addr)) (fp : List Addr), PG (X.blk s H scope (compEnvC scope cl C X.env) fp) t1 g1)
    (hk : ∀ (s : Shared) (H : Hp) (C : Addr) (cl : List (Str × Addr)) (fp : List Addr), PE (X.blk s H scope (compEnvC scope cl C X.env) fp) kx tk)
    (he : ∀ (s : Shared) (H : Hp) (C : Addr) (cl : List (Str × Addr)) (fp : List Addr), PE (X.blk s H scope (compEnvC scope cl C X.env) fp) vx tv)
    (hs : ∀ x, foldedSetIterable i0 X.env x = pure x) (hs1 : ∀ env x, foldedSetIterable i1 env x = pure x) (h : tDc2 X ho0 wi g wi1 g1 tk tv (own.map (·.2)) vs1 σ H Q)
    (fin : ∀ D C s' m H', Inv X pins σ H' s' → Q (.ref D) H' → s'.heap.Ns C m → FpOk X pins H' C → compPost (model X.prog X.w) X.A X.xe use Qf (.ref D) C (.ok .next) s') :
    wpAny (model X.prog X.w) X.A (comprehension (dcE kx vx t0 i0 t1 i1 scope pos) scope X.env pos' newDict false (eval i0 X.env) use) Qf X.xe s := by
  have free : ∀ y ∈ scope.names, y.2 = .free → ∃ c, X.env.cells.lookup y.1 = some c := fun y hy e => I.ok.has _ (ok.free y hy e)
  refine wpAny_comprehension_free (use := use) rfl hs (closure_ok free) ok.kind (fun y hy e => (ok.uniq y hy).trans (congrArg some e)) (thn (hi.run pins s σ H _ I h) fun xv s1 hx => thn hx fun itv s2 h2 => ?_)
  obtain ⟨itA, fp, tn, J, H2, rfl, I2, T, st2, f2, q⟩ := h2
  refine wpAny_newObj_type (newEnv_comp ?_)
  obtain ⟨D, hD⟩ : ∃ D, D = s2.heap.objs.size := ⟨_, rfl⟩
  rw [← hD]
  have hDn : H2 D = none := I2.hok.fresh (hD ▸ Nat.le_refl _)
  obtain ⟨W, ⟨m0, w0⟩, turn⟩ := q D hDn
  obtain ⟨s3, hs3⟩ : ∃ s3 : Shared, s3 = { s2 with heap := s2.heap.push { cls := .type "dict", data := .dict #[] } } := ⟨_, rfl⟩
  have grow : ∀ b o, s2.heap.get? b = some o → s3.heap.get? b = some o := fun b o e => by rw [hs3]; exact Heap.get?_push_of_some _ e
  have I3 : Inv X pins σ (upd H2 D ho0) s3 := by
    have new := hempty (upd H2 D ho0) s2.heap I2.big
    rw [← hD] at new
    rw [hs3]
    exact I2.laid (t' := s2.toks) (fun b o e => Heap.get?_push_of_some _ e) (hD ▸ Nat.le_refl _) new
  have hsz : s3.heap.objs.size = s2.heap.objs.size + 1 := by rw [hs3]; exact Heap.size_push ..
  have f3 : ∀ b ∈ fp, FpOk X pins (upd H2 D ho0) b ∧ b < s3.heap.objs.size := fun b hb => by
    obtain ⟨o, e, _⟩ := T.obj _ _ st2 b hb
    have hlt := Heap.lt_size e
    refine ⟨⟨?_, (f2 b hb).2⟩, by rw [hsz]; exact Nat.lt_succ_of_lt hlt⟩
    rw [upd_ne (by rw [hD]; exact Nat.ne_of_lt hlt)]
    exact (f2 b hb).1
  have st3 : tn 0 s3.heap := T.keep _ _ _ st2 fun b _ o e => grow b o e
  have I4 := block_start I3 ok hN f3
  obtain ⟨cl, hcl⟩ : ∃ cl, cl = cellsFrom (s3.heap.objs.size + 1) scope.names (cloFrom X.env.cells scope.names []) := ⟨_, rfl⟩
  rw [← hcl] at I4
  obtain ⟨s4, hs4⟩ : ∃ s4 : Shared, s4 = { s3 with heap := pushCells (s3.heap.push { cls := .type "dict", data := .dict #[] }) scope.names } := ⟨_, rfl⟩
  have goal : codeAny (model X.prog X.w) X.A (.compStart (dcE kx vx t0 i0 t1 i1 scope pos) 0 (.ref itA) (.ref D) (compEnvC scope cl s3.heap.objs.size X.env)) (compPost (model X.prog X.w) X.A X.xe use Qf (.ref D) s3.heap.objs.size) s4 := by
    rw [← hs4] at I4
    have st4 : tn 0 s4.heap := T.keep _ _ _ st3 fun b _ o e => by rw [hs4]; exact pushCells_keeps _ _ _ _ (Heap.get?_push_of_some _ e)
    have pg := hg s3 (upd H2 D ho0) s3.heap.objs.size cl fp
    have qi := hi1 s3 (upd H2 D ho0) s3.heap.objs.size cl fp
    have qg := hg1 s3 (upd H2 D ho0) s3.heap.objs.size cl fp
    have pk := hk s3 (upd H2 D ho0) s3.heap.objs.size cl fp
    have pv := he s3 (upd H2 D ho0) s3.heap.objs.size cl fp
    obtain ⟨ce, hce⟩ : ∃ ce, ce = compEnvC scope cl s3.heap.objs.size X.env := ⟨_, rfl⟩
    rw [← hce] at I4 pg qi qg pk pv ⊢
    have cL : ce.locals = s3.heap.objs.size := by rw [hce]; rfl
    have n3 : ∀ b ∈ fp, (upd H2 D ho0) b = none := fun b hb => (f3 b hb).1.1
    obtain ⟨H3, hH3⟩ : ∃ H3, H3 = upd H2 D ho0 := ⟨_, rfl⟩
    rw [← hH3] at I3 I4 pg qi qg pk pv w0 n3 f3
    have stat : ∀ {σ' : L2.St} {H' : Hp} {s' : Shared}, Inv (X.blk s3 H3 scope ce fp) [] σ' H' s' → (∀ b ∈ fp, H' b = none) → ∀ b ∈ fp, FpOk (X.blk s3 H3 scope ce fp) [] H' b := fun {σ' H' s'} J' hn b hb =>
      ⟨hn b hb, (J'.ok.exf b hb).1, J'.ok.exfs b hb, .inl hb, fun x c e => (J'.ok.exf b hb).2 x c e, fun p hp => by
        have hp : p ∈ ([] : List (Addr × Obj)) ++ [] := hp
        cases hp⟩
    let G : Nat → Shared → Prop := fun n s' => ∃ i H', Inv (X.blk s3 H3 scope ce fp) [] (L2.wipe σ (own.map (·.2))) H' s' ∧ tn i s'.heap ∧ (∀ b ∈ fp, H' b = none) ∧ W i n H'
    have loop : codeAny (model X.prog X.w) X.A (.compLoop (dcE kx vx t0 i0 t1 i1 scope pos) 0 (.ref itA) (.ref D) ce) (compPost (model X.prog X.w) X.A X.xe use Qf (.ref D) s3.heap.objs.size) s4 := by
      refine dcL0 (hs1 ce) G ?_ m0 ⟨0, H3, I4, st4, n3, w0⟩
      rintro n s5 ⟨i, H5, I5, st5, n5, w5⟩
      rcases turn i n H5 w5 with ⟨stop, qq⟩ | ⟨go, Z, hZ, step⟩
      · refine thnF (T.done (X.blk s3 H3 scope ce fp) rfl rfl rfl hc i [] s5 _ H5 (fun _ _ => False) I5 (stat I5 n5) st5 stop) fun r s6 ⟨hr, I6⟩ => ?_
        subst hr
        have fpk : ∀ b ∈ fp, _ := fun b hb => (f3 b hb).1.2
        have I7 : Inv X pins σ H5 s6 := I3.call' (ch := fp) I6.os I6.base I6.hok I6.bare fun b hb => ⟨(fpk b hb).2.2.1, (fpk b hb).1, (fpk b hb).2.2.2.1, (fpk b hb).2.2.2.2⟩
        have nC : H5 s3.heap.objs.size = none := by rw [← cL]; exact I6.free
        obtain ⟨m, hn, _⟩ := I6.loc
        have hn : s6.heap.Ns s3.heap.objs.size m := by rw [← cL]; exact hn
        exact fin D s3.heap.objs.size s6 m H5 I7 qq hn (I3.fpOk (Nat.le_refl _) nC)
      · refine thnF (T.item (X.blk s3 H3 scope ce fp) rfl rfl rfl hc i [] s5 _ H5 (fun _ _ => False) I5 (stat I5 n5) st5 go) fun r s6 ⟨u, hr, h6⟩ => ?_
        subst hr
        refine thnF h6 fun _ s7 ⟨x, H7, I7, r7, y7, st7, n7⟩ => ?_
        refine thnF (pg.run _ s7 _ H7 x u _ (I7.pinned (stat I7 n7) (T.obj _ _ st7)) r7 (step x H7 y7)) fun _ s8 ⟨σ8, H8, I8, hw8, q8⟩ => ?_
        -- back to the outer turn
        have ret : ∀ {σ9 : L2.St} {s' : Shared} {H' : Hp}, Inv (X.blk s3 H3 scope ce fp) ([] ++ pinsAt fp s7.heap) σ9 H' s' → (L2.wipe σ (own.map (·.2))).length = σ9.length → (∀ (j : Nat) v, (L2.wipe σ (own.map (·.2)))[j]? = some (some v) → σ9[j]? = some (some v)) → Z H' → back0 G n s' := fun {σ9 s' H'} J' hl hkp nx => by
          obtain ⟨j, hj, w'⟩ := hZ H' nx
          have still : ∀ b ∈ fp, ∀ o, s7.heap.get? b = some o → s'.heap.get? b = some o ∧ H' b = none := fun b hb o e => by
            have z := J'.pin (b, o) (List.mem_append_right _ (List.mem_append_right _ (mem_pinsAt hb e)))
            exact ⟨z.1, z.2.1⟩
          refine ⟨j, hj, i + 1, H', (J'.unpinned (pins := [])).weak hl hkp, T.keep _ _ _ st7 fun b hb o e => (still b hb o e).1, fun b hb => ?_, w'⟩
          obtain ⟨o, e, _⟩ := T.obj _ _ st7 b hb
          exact (still b hb o e).2
        have len8 : (L2.wipe σ (own.map (·.2))).length = σ8.length := by rw [← hw8, wipe_length]
        have kp8 : ∀ (j : Nat) v, (L2.wipe σ (own.map (·.2)))[j]? = some (some v) → (L2.wipe σ8 vs1)[j]? = some (some v) := fun j v e => by
          rw [← hw8] at e
          obtain ⟨a1, a2⟩ := wipe_some e
          rw [wipe_out fun z => a2 (hv j z)]
          exact a1
        refine thnF (qi.run _ s8 σ8 H8 _ I8 q8) fun xv s9 hx => thnF hx fun jtv s10 h10 => ?_
        obtain ⟨jtA, gp, un, J1, H10, rfl, I10, U, su10, f10, W1, ⟨m1, w1⟩, turn1⟩ := h10
        have stat1 : ∀ {H' : Hp}, (∀ b ∈ gp, H' b = none) → ∀ b ∈ gp, FpOk (X.blk s3 H3 scope ce fp) ([] ++ pinsAt fp s7.heap) H' b := fun hn b hb => ⟨hn b hb, (f10 b hb).2⟩
        let G1 : Nat → Shared → Prop := fun n s' => ∃ j H', Inv (X.blk s3 H3 scope ce fp) ([] ++ pinsAt fp s7.heap) (L2.wipe σ8 vs1) H' s' ∧ un j s'.heap ∧ (∀ b ∈ gp, H' b = none) ∧ W1 j n H'
        have inner : codeAny (model X.prog X.w) X.A (.compLoop (dcE kx vx t0 i0 t1 i1 scope pos) 1 (.ref jtA) (.ref D) ce) (fun r s' => match r with
            | .ok _ => back0 G n s'
            | .error _ => False) s10 := by
          refine dcL1 G1 ?_ m1 ⟨0, H10, I10.weak (wipe_length _ _) (fun j v e => (wipe_some e).1), su10, fun b hb => (f10 b hb).1, w1⟩
          rintro k s11 ⟨j, H11, I11, su11, n11, w11⟩
          rcases turn1 j k H11 w11 with ⟨stop1, nx⟩ | ⟨go1, Z1, hZ1, step1⟩
          · refine thnF (U.done (X.blk s3 H3 scope ce fp) rfl rfl rfl hc j _ s11 _ H11 (fun _ _ => False) I11 (stat1 n11) su11 stop1) fun r s12 ⟨hr, I12⟩ => ?_
            subst hr
            exact ret I12 (len8.trans (wipe_length σ8 vs1).symm) kp8 nx
          · refine thnF (U.item (X.blk s3 H3 scope ce fp) rfl rfl rfl hc j _ s11 _ H11 (fun _ _ => False) I11 (stat1 n11) su11 go1) fun r s12 ⟨u1, hr, h12⟩ => ?_
            subst hr
            refine thnF h12 fun _ s13 ⟨x1, H13, I13, r13, y13, su13, n13⟩ => ?_
            refine thnF (qg.run _ s13 _ H13 x1 u1 _ (I13.pinned (stat1 n13) (U.obj _ _ su13)) r13 (step1 x1 H13 y13)) fun _ s14 ⟨σ14, H14, I14, hw14, q14⟩ => ?_
            have ret1 : ∀ {s' : Shared} {H' : Hp}, Inv (X.blk s3 H3 scope ce fp) (([] ++ pinsAt fp s7.heap) ++ pinsAt gp s13.heap) σ14 H' s' → Z1 H' → back0 G1 k s' := fun {s' H'} J' nx => by
              obtain ⟨l, hl, w'⟩ := hZ1 H' nx
              have still : ∀ b ∈ gp, ∀ o, s13.heap.get? b = some o → s'.heap.get? b = some o ∧ H' b = none := fun b hb o e => by
                have z := J'.pin (b, o) (List.mem_append_right _ (List.mem_append_right _ (mem_pinsAt hb e)))
                exact ⟨z.1, z.2.1⟩
              refine ⟨l, hl, j + 1, H', J'.unpinned.weak (by rw [← hw14, wipe_length]) (fun i v e => by rw [← hw14] at e; exact (wipe_some e).1), U.keep _ _ _ su13 fun b hb o e => (still b hb o e).1, fun b hb => ?_, w'⟩
              obtain ⟨o, e, _⟩ := U.obj _ _ su13 b hb
              exact (still b hb o e).2
            refine thnF (pk.run _ s14 σ14 H14 _ I14 q14) fun yv s15 ⟨y, H15, I15, r15, q15⟩ => thnF (pv.run _ s15 σ14 H15 _ I15 q15) fun zv s16 ⟨z, H16, I16, r16, ho, hput, nx⟩ => ?_
            have r15' : RelV y yv := r15
            exact hput (X.blk s3 H3 scope ce fp) rfl _ _ _ _ _ _ _ I16 r15' r16 fun s17 I17 => ret1 I17 nx
        exact dcS1 inner (U.self X.A 0 _ _ _ su10 inner)
    exact codeAny_compStart_dict loop (T.self X.A 0 _ _ _ st4 loop)
  rw [hs4, hs3] at goal
  rw [hcl, hs3] at goal
  exact goal
theorem pe_dc2 {ho0 : HO} {kx vx t0 i0 t1 i1 : Expr} {scope : Scope} {own : List (Str × Nat)} {vs1 : List Nat} {pos : Pos} {wi wi1 : TI} {g g1 : TG} {tk tv : TE}
    (hempty : ∀ (H : Hp) (h : Heap), sysModules < h.objs.size → ObjOk X.prog X.w H (h.push { cls := .type "dict", data := .dict #[] }) h.objs.size ho0)
    (hc : X.calm = true) (hN : X.N.Nodup) (hi : PI X t0 i0 wi) (ok : BlkOk X.N X.env.scope scope own) (hv : ∀ i ∈ vs1, i ∈ own.map (·.2))
    (hg : ∀ (s : Shared) (H : Hp) (C : Addr) (cl : List (Str × Addr)) (fp : List Addr), PG (X.blk s H scope (compEnvC scope cl C X.env) fp) t0 g)
    (hi1 : ∀ (s : Shared) (H : Hp) (C : Addr) (cl : List (Str × Addr)) (fp : List Addr), PI (X.blk s H scope (compEnvC scope cl C X.env) fp) t1 i1 wi1)
    (hg1 : ∀ (s : Shared) (H : Hp) (C : Addr) (cl : List (Str × Addr)) (fp : List Addr), PG (X.blk s H scope (compEnvC scope cl C X.env) fp) t1 g1)
    (hk : ∀ (s : Shared) (H : Hp) (C : Addr) (cl : List (Str × Addr)) (fp : List Addr), PE (X.blk s H scope (compEnvC scope cl C X.env) fp) kx tk)
    (he : ∀ (s : Shared) (H : Hp) (C : Addr) (cl : List (Str × Addr)) (fp : List Addr), PE (X.blk s H scope (compEnvC scope cl C X.env) fp) vx tv)
    (hs : ∀ x, foldedSetIterable i0 X.env x = pure x) (hs1 : ∀ env x, foldedSetIterable i1 env x = pure x) : PE X (dcE kx vx t0 i0 t1 i1 scope pos) (tDc2 X ho0 wi g wi1 g1 tk tv (own.map (·.2)) vs1) := by
  refine ⟨fun pins s σ H Q I h => ?_⟩
  rw [arm_eval_DictComp]
  refine dc2_core hempty hc hN I hi ok hv hg hi1 hg1 hk he hs hs1 h fun D C s' m H' J' q hn ⟨f0, f1, f2, f3, f4, f5⟩ => ⟨m, hn, fun h'' sb => ?_⟩
  exact ⟨.ref D, H', J'.turned (t' := s'.toks) (fun b o hb e => (sb.2 b hb).trans e) f0 f1 f3 f4 f5, rfl, q⟩
end
end DL

/-! DL21: dict comprehensions over data, one clause and two. -/
namespace DL
open PySem PySem.Spec PyProof.Rows L2
/-- a kind of dict -/
structure DKind (κ : Type) [DecidableEq κ] where
  ob : List (κ × V) → HO
  key : κ → Da
  dat : List (κ × V) → Da
  empt : ∀ (P : Program) (w : World) (H : Hp) (h : Heap), sysModules < h.objs.size → ObjOk P w H (h.push { cls := .type "dict", data := .dict #[] }) h.objs.size (ob [])
  put : ∀ {X : Cx} {K : PySem.W.Frag} {Hs H : Hp} {D : Addr} {y z : V} {kvs : List (κ × V)} {q : κ}, X.A.units + 1 < cLine → Same Hs H → Rp K Hs (key q) y → H D = some (ob kvs) → kvs.length < sizeLine → PutA X D y z H (ob (putK kvs q z))
  rp : ∀ {K : PySem.W.Frag} {H : Hp} {p : Addr} {l : List (κ × V)}, H p = some (ob l) → Rp K H (dat l) (.ref p)
def kindK : DKind Key where
  ob := .dK
  key := fun q => .a (kV q)
  dat := .dk
  empt := fun P w H h hb => dk_empty h hb
  put := fun {X K Hs H D y z kvs q} _ _ r hD hz => by
    cases r.atom
    exact putA_k hD hz
  rp := fun h => .dk h
def kindT : DKind (List Key) where
  ob := .dT
  key := fun q => .tup ((q.map kV).map Da.a)
  dat := .dt
  empt := fun P w H h hb => dt_empty h hb
  put := fun {X K Hs H D y z kvs q} hu e r hD hz => by
    obtain ⟨b, ws, rfl, hb, ra⟩ := r.tup_inv
    rw [ra.atoms] at hb
    exact putA_t hu hD (e _ _ hb) hz
  rp := fun h => .dt (.inl h)
/-- entries laid in one by one -/
def putsE {κ : Type} [DecidableEq κ] (E : List (κ × V)) : List (κ × V) := E.foldl (fun acc p => putK acc p.1 p.2) []
theorem putsE_snoc {κ : Type} [DecidableEq κ] (E : List (κ × V)) (q : κ) (v : V) : putsE (E ++ [(q, v)]) = putK (putsE E) q v := by
  unfold putsE
  rw [List.foldl_append]
  rfl
theorem putsE_len {κ : Type} [DecidableEq κ] (E : List (κ × V)) : (putsE E).length ≤ E.length := by
  suffices H : ∀ E : List (κ × V), (putsE E.reverse).length ≤ E.length by have := H E.reverse; rwa [List.reverse_reverse, List.length_reverse] at this
  intro E
  induction E with
  | nil => exact Nat.le_refl _
  | cons p E ih =>
    rw [List.reverse_cons, putsE_snoc, List.length_cons]
    have := length_putK (putsE E.reverse) p.1 p.2
    omega
section
variable {M : Md} {X : Cx} {k : Nat} {N : List Str} {sc cs : Scope} {δ δ' : Sg} {m : Bool} {Φ Ψ : Da → Prop} {x y : Str} {pos p2 p3 apos : Pos} {a b o tg it tg1 it1 kx vx : Expr} {es : List Expr} {nx bk ct : Sg → Prop} {rt : Da → Prop} {scope : Scope} {os0 os os1 : List Str} {κ : Type} [DecidableEq κ]
def Dc2D (Kd : DKind κ) (M : Md) (k : Nat) (N : List Str) (sc : Scope) (scope : Scope) (tg tg1 it1 kx vx : Expr) (os0 os os1 : List Str) (δ : Sg) (ds : List Da) (Φ : Da → Prop) : Prop :=
  ∃ (δw : Sg) (P : Nat → List (κ × V) → Prop), Wp N os δ δw ∧ P 0 [] ∧
    (∀ X', Sc M X' k N (relS scope sc) scope → ∀ i d E, ds[i]? = some d → P i E → DG X' tg os0 d δw fun δ2 => noOwn δ2 = true ∧ ∃ δ2w, Wp N os1 δ2 δ2w ∧ ∀ X', Sc M X' k N (relS scope sc) scope → DI X' tg1 it1 δ2 fun ds1 =>
      ∃ P1 : Nat → List (κ × V) → Prop, P1 0 E ∧ (∀ X', Sc M X' k N (relS scope sc) scope → ∀ j d1 E1, ds1[j]? = some d1 → P1 j E1 → E1.length < 1000000 ∧ DG X' tg1 os1 d1 δ2w fun δ3 => ∀ X', Sc M X' k N (relS scope sc) scope → DE X' kx δ3 fun y => ∀ X', Sc M X' k N (relS scope sc) scope → DE X' vx δ3 fun z => ∃ q v, y = Kd.key q ∧ z = .a v ∧ P1 (j + 1) (E1 ++ [(q, v)])) ∧
        ∀ E1, P1 ds1.length E1 → P (i + 1) E1) ∧
    ∀ E, P ds.length E → Φ (Kd.dat (putsE E))
theorem dc2_run (Kd : DKind κ) (S : Sc M X k N sc cs) (kind : scope.kind = .function) (hn0 : ∀ x ∈ os0, x ∈ os) (h : DI X tg it δ fun ds => Dc2D Kd M k N sc scope tg tg1 it1 kx vx os0 os os1 δ ds Φ) {Bs B Hs H : Hp} {σ : L2.St} (o : Ok X.K Bs B Hs H σ δ) {Q : VK}
    (q : ∀ d v Hs' H', Go Hs H Hs' H' → Φ d → Rp X.K Hs' d v → Q v H') : tDc2 X (Kd.ob []) (WI X tg it) (WGb X scope tg) (WIb X scope tg1 it1) (WGb X scope tg1) (WEb X scope kx) (WEb X scope vx) ((ownOf N os).map (·.2)) ((ownOf N os1).map (·.2)) σ H Q := by
  have nd := S.nd
  have hu : X.A.units + 1 < cLine := by have := S.room.units; omega
  have sz : sizeLine = 16777216 := sizeLine_eq
  refine h Bs B Hs H σ o _ fun ds J G Y Hs1 H1 g1 ⟨δw, P, hw, p0, step, fin⟩ wk hG hY D hD => ?_
  have oD : ∀ (i : Nat) (s : SD) (q : Addr), δ[i]? = some (some s) → s.own = true → σ[i]? = some (some (.ref q)) → q ≠ D := fun i s q e w h z => (o.mono g1).ownAt e w h (by rw [z]; exact hD)
  have hD0 : H D = none := g1.hh.free hD
  have hB : B D = none := o.go.hh.free hD0
  refine ⟨fun i m H2 => m = ds.length - i ∧ i ≤ ds.length ∧ ∃ Hs2 E, Go Hs H Hs2 H2 ∧ Same Hs1 Hs2 ∧ Ok X.K Bs B Hs2 H2 σ δ ∧ Hs2 D = none ∧ H2 D = some (Kd.ob (putsE E)) ∧ P i E,
    ⟨_, rfl, Nat.zero_le _, Hs1, [], g1.trans (Go.own g1.sub hD), Same.refl _, (o.mono g1).mono (Go.own g1.sub hD), g1.sub.free hD, upd_same, p0⟩, ?_⟩
  rintro i m H2 ⟨rfl, hi, Hs2, E, g2, s2, o2, hDs, hDv, pi⟩
  by_cases hlt : i < ds.length
  · refine .inr ⟨wk.goes i H2 hlt (hG Hs2 H2 s2 o2.sub), fun H' => ∃ Hs2 E, Go Hs H Hs2 H' ∧ Same Hs1 Hs2 ∧ Ok X.K Bs B Hs2 H' σ δ ∧ Hs2 D = none ∧ H' D = some (Kd.ob (putsE E)) ∧ P (i + 1) E, fun H' p' => ⟨ds.length - (i + 1), by omega, rfl, hlt, p'⟩, fun x H3 hy => ?_⟩
    have hy := wk.yields i H2 x H3 hlt (hG Hs2 H2 s2 o2.sub) hy
    intro s H0 C cl fp pins s' u I r
    obtain ⟨d, hd⟩ : ∃ d, ds[i]? = some d := ⟨ds[i], by simp [hlt]⟩
    obtain ⟨Hs3, g3, rd⟩ := hY i d Hs2 H2 x H3 s2 o2.sub hd hy
    have hsl : σ.length = N.length := by
      have := I.len
      rw [wipe_length] at this
      rw [this]
      exact congrArg List.length S.n
    have nDs : ∀ {Hs' H' : Hp}, Go Hs2 H2 Hs' H' → Hs' D = none := fun g => g.no D (by rw [hDv]; exact fun z => nomatch z) hDs
    refine step (X.blk s H0 scope (compEnvC scope cl C X.env) fp) (S.blk kind) i d E hd pi Bs B Hs3 H3 _ x ((o2.mono g3).wipe nd hw) rd _ (fun δ2 σ2 Hs4 H4 o4 g4 kp ⟨no, δ2w, hw2, hi1⟩ => ?_) pins s' u I r
    have kp' : Keep N os0 (L2.wipe σ ((ownOf N os).map (·.2))) σ2 := by have z : Keep X.N os0 _ σ2 := kp; rwa [S.n] at z
    have hsl2 : σ2.length = N.length := by rw [kp'.1, wipe_length, hsl]
    refine ⟨wipe_keep nd hsl kp' hn0, fun s H0 C cl fp pins s' I => ?_⟩
    refine hi1 (X.blk s H0 scope (compEnvC scope cl C X.env) fp) (S.blk kind) Bs B Hs4 H4 σ2 o4 _ (fun ds1 J1 G1 Y1 Hs5 H5 g5 ⟨P1, q0, step1, fin1⟩ wk1 hG1 hY1 => ?_) pins s' I
    have g35 := (g3.trans g4).trans g5
    have o2D : ∀ (i : Nat) (s : SD) (q : Addr), δ2[i]? = some (some s) → s.own = true → σ2[i]? = some (some (.ref q)) → q ≠ D := fun i s q e w h => by rw [noOwn_no no e] at w; cases w
    refine ⟨fun j m H6 => m = ds1.length - j ∧ j ≤ ds1.length ∧ ∃ Hs6 E1, Go Hs H Hs6 H6 ∧ Same Hs5 Hs6 ∧ Ok X.K Bs B Hs6 H6 σ δ ∧ Ok X.K Bs B Hs6 H6 σ2 δ2 ∧ Hs6 D = none ∧ H6 D = some (Kd.ob (putsE E1)) ∧ P1 j E1,
      ⟨_, rfl, Nat.zero_le _, Hs5, E, g2.trans g35, Same.refl _, o2.mono g35, o4.mono g5, nDs g35, g35.hh _ _ hDv, q0⟩, ?_⟩
    rintro j m H6 ⟨rfl, hj, Hs6, E1, g6, s6, o6, o26, hDs6, hDv6, pj⟩
    by_cases hlt1 : j < ds1.length
    · refine .inr ⟨wk1.goes j H6 hlt1 (hG1 Hs6 H6 s6 o26.sub), fun H' => ∃ Hs6 E1, Go Hs H Hs6 H' ∧ Same Hs5 Hs6 ∧ Ok X.K Bs B Hs6 H' σ δ ∧ Ok X.K Bs B Hs6 H' σ2 δ2 ∧ Hs6 D = none ∧ H' D = some (Kd.ob (putsE E1)) ∧ P1 (j + 1) E1, fun H' p' => ⟨ds1.length - (j + 1), by omega, rfl, hlt1, p'⟩, fun x1 H7 hy1 => ?_⟩
      have hy1 := wk1.yields j H6 x1 H7 hlt1 (hG1 Hs6 H6 s6 o26.sub) hy1
      intro s H0 C cl fp pins s' u I r
      obtain ⟨d1, hd1⟩ : ∃ d1, ds1[j]? = some d1 := ⟨ds1[j], by simp [hlt1]⟩
      obtain ⟨Hs7, g7, rd1⟩ := hY1 j d1 Hs6 H6 x1 H7 s6 o26.sub hd1 hy1
      have nD6 : ∀ {Hs' H' : Hp}, Go Hs6 H6 Hs' H' → Hs' D = none := fun g => g.no D (by rw [hDv6]; exact fun z => nomatch z) hDs6
      obtain ⟨hb, stp⟩ := step1 (X.blk s H0 scope (compEnvC scope cl C X.env) fp) (S.blk kind) j d1 E1 hd1 pj
      refine stp Bs B Hs7 H7 _ x1 ((o26.mono g7).wipe nd hw2) rd1 _ (fun δ3 σ3 Hs8 H8 o8 g8 kp3 he => ?_) pins s' u I r
      have kp3' : Keep N os1 (L2.wipe σ2 ((ownOf N os1).map (·.2))) σ3 := by have z : Keep X.N os1 _ σ3 := kp3; rwa [S.n] at z
      refine ⟨wipe_keep nd hsl2 kp3' fun _ z => z, fun s H0 C cl fp pins s' I => ?_⟩
      refine he (X.blk s H0 scope (compEnvC scope cl C X.env) fp) (S.blk kind) Bs B Hs8 H8 σ3 o8 _ (fun y v Hs9 H9 g9 p9 r9 => ?_) pins s' I
      intro s H0 C cl fp pins s' I
      refine p9 (X.blk s H0 scope (compEnvC scope cl C X.env) fp) (S.blk kind) Bs B Hs9 H9 σ3 (o8.mono g9) _ (fun z w HsA HA gA ⟨qk, vw, ey, ez, pA⟩ rA => ?_) pins s' I
      subst ey
      have ew : w = vw := by subst ez; exact rA.atom
      subst ew
      have g7A := ((g7.trans g8).trans g9).trans gA
      have hl := putsE_len E1
      refine ⟨_, Kd.put hu gA.sub (Rp.mono gA.ss r9) (g7A.hh _ _ hDv6) (by omega), HsA, E1 ++ [(qk, w)], ?_⟩
      rw [putsE_snoc]
      exact ⟨(g6.trans g7A).mut hD0 (nD6 g7A), s6.trans g7A.ss, (o6.mono g7A).other (nD6 g7A) hB oD, (o26.mono g7A).other (nD6 g7A) hB o2D, nD6 g7A, upd_same, pA⟩
    · obtain rfl : j = ds1.length := by omega
      exact .inl ⟨wk1.stops H6 (hG1 Hs6 H6 s6 o26.sub), Hs6, E1, g6, s2.trans (g35.ss.trans s6), o6, hDs6, hDv6, fin1 E1 pj⟩
  · obtain rfl : i = ds.length := by omega
    exact .inl ⟨wk.stops H2 (hG Hs2 H2 s2 o2.sub), q _ _ _ _ (g2.freeze hD0 hDs hDv) (fin E pi) (Kd.rp upd_same)⟩
theorem de_dc2 (Kd : DKind κ) (S : Sc M X k N sc cs) (h : DI X tg it δ fun ds => Dc2D Kd M k N sc scope tg tg1 it1 kx vx os0 os os1 δ ds Φ) (hk : blkB N sc scope os = true) (hn0 : ∀ x ∈ os0, x ∈ os) (hn1 : ∀ x ∈ os1, x ∈ os)
    (hs : ∀ x, foldedSetIterable it X.env x = pure x := by intro _; rfl) (hs1 : ∀ env x, foldedSetIterable it1 env x = pure x := by intro _ _; rfl) : DM X m (.DictComp kx vx [⟨tg, it, [], 0⟩, ⟨tg1, it1, [], 0⟩] scope pos) δ Φ := DM.of <| .mk fun Bs B Hs H σ o Q q => by
  have ok : BlkOk X.N X.env.scope scope (ownOf N os) := by rw [S.n, S.hsc]; exact blkOk_by hk
  have hv : ∀ i ∈ (ownOf N os1).map (·.2), i ∈ (ownOf N os).map (·.2) := fun i hi => by
    unfold ownOf at hi ⊢
    rw [List.map_map] at hi ⊢
    obtain ⟨z, hz, rfl⟩ := List.mem_map.mp hi
    exact List.mem_map.mpr ⟨z, hn1 z hz, rfl⟩
  exact WE.of (pe_dc2 (fun H h hb => Kd.empt _ _ H h hb) S.calm (by rw [S.n]; exact S.nd) pi_W ok hv pgb_W pib_W pgb_W peb_W peb_W hs hs1) (dc2_run Kd S ok.kind hn0 h o q)
/-- {key: value for b in m(a) for a in l} -/
theorem dc2_map {Kd : DKind κ} {α β : Type} {l : List α} {g : α → Da} {mm : α → List β} {g1 : α → β → Da} {f : α → β → κ × V} {δw : Sg} (hw : Wp N os δ δw) (hz : (l.flatMap mm).length ≤ 1000000)
    (h : ∀ X', Sc M X' k N (relS scope sc) scope → ∀ a ∈ l, DG X' tg os0 (g a) δw fun δ2 => noOwn δ2 = true ∧ ∃ δ2w, Wp N os1 δ2 δ2w ∧ ∀ X', Sc M X' k N (relS scope sc) scope → DI X' tg1 it1 δ2 fun ds1 => ds1 = (mm a).map (g1 a) ∧
      ∀ X', Sc M X' k N (relS scope sc) scope → ∀ b ∈ mm a, DG X' tg1 os1 (g1 a b) δ2w fun δ3 => ∀ X', Sc M X' k N (relS scope sc) scope → DE X' kx δ3 fun y => ∀ X', Sc M X' k N (relS scope sc) scope → DE X' vx δ3 fun z => y = Kd.key (f a b).1 ∧ z = .a (f a b).2)
    (fin : Φ (Kd.dat (putsE (l.flatMap fun a => (mm a).map (f a))))) : Dc2D Kd M k N sc scope tg tg1 it1 kx vx os0 os os1 δ (l.map g) Φ := by
  have hlen : ∀ l : List α, (l.flatMap fun a => (mm a).map (f a)).length = (l.flatMap mm).length := fun l => by
    rw [List.length_flatMap, List.length_flatMap]
    simp
  refine ⟨δw, fun i acc => acc = (l.take i).flatMap fun a => (mm a).map (f a), hw, rfl, fun X' S' i d acc hi hp => ?_, fun acc hp => ?_⟩
  · rw [List.getElem?_map] at hi
    obtain ⟨a, ha, rfl⟩ := Option.map_eq_some_iff.mp hi
    have hil := (List.getElem?_eq_some_iff.mp ha).1
    have hd := h X' S' a (List.mem_of_getElem? ha)
    have et : l.take (i + 1) = l.take i ++ [a] := by rw [List.take_add_one, ha]; rfl
    have hsplit : l = l.take i ++ (a :: l.drop (i + 1)) := by
      rw [← (List.getElem?_eq_some_iff.mp ha).2, ← List.drop_eq_getElem_cons hil, List.take_append_drop]
    have hb0 : ((l.take i).flatMap mm).length + (mm a).length ≤ 1000000 := by
      have e2 := congrArg (fun z => (z.flatMap mm).length) hsplit
      simp only [List.flatMap_append, List.flatMap_cons, List.length_append] at e2
      omega
    refine .mk fun Bs B Hs H σ v o r Q q => hd Bs B Hs H σ v o r Q fun δ' σ' Hs' H' o' g' kp ⟨h1, δ2w, h2, h3⟩ => q δ' σ' Hs' H' o' g' kp ⟨h1, δ2w, h2, fun X2 S2 => ?_⟩
    refine .mk fun Bs B Hs H σ o R q => (h3 X2 S2) Bs B Hs H σ o R fun ds1 J G Y Hs' H' g' ⟨e1, stp⟩ wk hG hY => q ds1 J G Y Hs' H' g' ?_ wk hG hY
    subst e1
    refine ⟨fun j acc1 => acc1 = acc ++ ((mm a).take j).map (f a), by simp, fun X3 S3 j d1 acc1 hj hp1 => ?_, fun acc1 hp1 => ?_⟩
    · rw [List.getElem?_map] at hj
      obtain ⟨b, hb, rfl⟩ := Option.map_eq_some_iff.mp hj
      have hjl := (List.getElem?_eq_some_iff.mp hb).1
      refine ⟨?_, ?_⟩
      · rw [hp1, hp, List.length_append, hlen, List.length_map, List.length_take]
        omega
      · have hd2 := stp X3 S3 b (List.mem_of_getElem? hb)
        refine .mk fun Bs B Hs H σ v o r Q q => hd2 Bs B Hs H σ v o r Q fun δ' σ' Hs' H' o' g' kp h5 => q δ' σ' Hs' H' o' g' kp fun X4 S4 => (h5 X4 S4).imp fun y ey X5 S5 => (ey X5 S5).imp fun z ez => ⟨(f a b).1, (f a b).2, ez.1, ez.2, ?_⟩
        dsimp only
        rw [hp1, List.take_add_one, hb, Option.toList_some, List.map_append, List.append_assoc]
        rfl
    · have e3 : ((mm a).map (g1 a)).length = (mm a).length := by simp
      rw [e3, List.take_length] at hp1
      dsimp only
      rw [hp1, hp, et, List.flatMap_append]
      simp
  · rw [List.length_map, List.take_length] at hp
    rw [hp]
    exact fin
end
end DL

/-! DL22: a dict with tuple keys walked (and locked meanwhile); dict comprehensions by whole numbers, one clause. -/
namespace DL
open PySem PySem.Spec PyProof.Rows L2
/-- the thing at p locked, in any heap that has it -/
def lk (p : Addr) (od : Obj) (u : HO) (G : Hp) : Hp := fun q => if q = p then (match G p with | none => none | some _ => some (.frz od u)) else G q
def ulk (p : Addr) (u : HO) (G : Hp) : Hp := fun q => if q = p then (match G p with | none => none | some _ => some u) else G q
theorem lk_ne {p q : Addr} {od : Obj} {u : HO} {G : Hp} (h : q ≠ p) : lk p od u G q = G q := by unfold lk; rw [if_neg h]
theorem ulk_ne {p q : Addr} {u : HO} {G : Hp} (h : q ≠ p) : ulk p u G q = G q := by unfold ulk; rw [if_neg h]
theorem lk_none {p : Addr} {od : Obj} {u : HO} {G : Hp} (h : G p = none) : lk p od u G p = none := by unfold lk; rw [if_pos rfl, h]
theorem ulk_none {p : Addr} {u : HO} {G : Hp} (h : G p = none) : ulk p u G p = none := by unfold ulk; rw [if_pos rfl, h]
theorem lk_some {p : Addr} {od : Obj} {u o : HO} {G : Hp} (h : G p = some o) : lk p od u G p = some (.frz od u) := by unfold lk; rw [if_pos rfl, h]
theorem ulk_some {p : Addr} {u o : HO} {G : Hp} (h : G p = some o) : ulk p u G p = some u := by unfold ulk; rw [if_pos rfl, h]
theorem lk_upd {p : Addr} {od : Obj} {u o : HO} {G : Hp} (h : G p = some o) : lk p od u G = upd G p (.frz od u) := by
  funext q
  by_cases e : q = p
  · rw [e, lk_some h, upd_same]
  · rw [lk_ne e, upd_ne e]
theorem ulk_upd {p : Addr} {u o : HO} {G : Hp} (h : G p = some o) : ulk p u G = upd G p u := by
  funext q
  by_cases e : q = p
  · rw [e, ulk_some h, upd_same]
  · rw [ulk_ne e, upd_ne e]
/-- a heap in which just p stands otherwise, a dict all the same -/
structure Swap (p : Addr) (kvs : List (List Key × V)) (G G' : Hp) : Prop where
  other : ∀ q o, q ≠ p → G q = some o → G' q = some o
  here : ∀ o, G p = some o → (o = .dT kvs ∨ ∃ od, o = .frz od (.dT kvs)) ∧ Rd G' p (.dT kvs)
section
variable {K : PySem.W.Frag} {p : Addr} {kvs : List (List Key × V)} {G G' : Hp}
theorem Swap.plain (w : Swap p kvs G G') {q : Addr} {o : HO} (h : G q = some o) (h1 : o ≠ .dT kvs) (h2 : ∀ od, o ≠ .frz od (.dT kvs)) : G' q = some o := by
  refine w.other q o (fun e => ?_) h
  rw [e] at h
  rcases (w.here o h).1 with e | ⟨od, e⟩
  · exact h1 e
  · exact h2 od e
mutual
theorem Rp.swap (w : Swap p kvs G G') : ∀ {d : Da} {v : V}, Rp K G d v → Rp K G' d v
  | _, _, .a v => .a v
  | _, _, .lst h r => .lst (w.plain h (fun z => nomatch z) (fun _ z => nomatch z)) (RpAll.swap w r)
  | _, _, .tup h r => .tup (w.plain h (fun z => nomatch z) (fun _ z => nomatch z)) (RpAll.swap w r)
  | _, _, .dk h => .dk (w.plain h (fun z => nomatch z) (fun _ z => nomatch z))
  | _, _, .dt (p := q) h => .dt (by
      by_cases e : q = p
      · subst e
        rcases h with h | ⟨o, h⟩
        · obtain ⟨a, b⟩ := w.here _ h
          rcases a with a | ⟨od, a⟩
          · cases a; exact b
          · cases a
        · obtain ⟨a, b⟩ := w.here _ h
          rcases a with a | ⟨od, a⟩
          · cases a
          · cases a; exact b
      · rcases h with h | ⟨o, h⟩
        · exact .inl (w.other q _ e h)
        · exact .inr ⟨o, w.other q _ e h⟩)
  | _, _, .drw h => .drw (w.plain h (fun z => nomatch z) (fun _ z => nomatch z))
  | _, _, .scr h => .scr (by
      rcases h with h | h
      · refine .inl ?_
        rcases h with h | ⟨o, h⟩
        · exact .inl (w.plain h (fun z => nomatch z) (fun _ z => nomatch z))
        · exact .inr ⟨o, w.plain h (fun z => nomatch z) (fun _ z => nomatch z)⟩
      · exact .inr h)
theorem RpAll.swap (w : Swap p kvs G G') : ∀ {ds : List Da} {vs : List V}, RpAll K G ds vs → RpAll K G' ds vs
  | _, _, .nil => .nil
  | _, _, .cons r t => .cons (Rp.swap w r) (RpAll.swap w t)
end
theorem swap_lk {od : Obj} (h : ∀ o, G p = some o → o = .dT kvs) : Swap p kvs G (lk p od (.dT kvs) G) :=
  ⟨fun q o e x => by rw [lk_ne e]; exact x, fun o x => ⟨.inl (h o x), .inr ⟨od, lk_some x⟩⟩⟩
theorem swap_ulk {od : Obj} (h : ∀ o, G p = some o → o = .frz od (.dT kvs)) : Swap p kvs G (ulk p (.dT kvs) G) :=
  ⟨fun q o e x => by rw [ulk_ne e]; exact x, fun o x => ⟨.inr ⟨od, h o x⟩, .inl (ulk_some x)⟩⟩
theorem same_lk {od : Obj} {u : HO} {A B : Hp} (e : Same A B) : Same (lk p od u A) (lk p od u B) := fun q o h => by
  by_cases hq : q = p
  · subst hq
    cases hA : A q with
    | none => rw [lk_none hA] at h; cases h
    | some x => rw [lk_some hA] at h; cases h; exact lk_some (e _ _ hA)
  · rw [lk_ne hq] at h ⊢
    exact e _ _ h
theorem same_ulk {u : HO} {A B : Hp} (e : Same A B) : Same (ulk p u A) (ulk p u B) := fun q o h => by
  by_cases hq : q = p
  · subst hq
    cases hA : A q with
    | none => rw [ulk_none hA] at h; cases h
    | some x => rw [ulk_some hA] at h; cases h; exact ulk_some (e _ _ hA)
  · rw [ulk_ne hq] at h ⊢
    exact e _ _ h
theorem lk_dom {od : Obj} {u : HO} {A : Hp} {q : Addr} : lk p od u A q = none ↔ A q = none := by
  by_cases hq : q = p
  · subst hq
    cases hA : A q with
    | none => simp [lk_none hA]
    | some x => simp [lk_some hA]
  · rw [lk_ne hq]
theorem ulk_dom {u : HO} {A : Hp} {q : Addr} : ulk p u A q = none ↔ A q = none := by
  by_cases hq : q = p
  · subst hq
    cases hA : A q with
    | none => simp [ulk_none hA]
    | some x => simp [ulk_some hA]
  · rw [ulk_ne hq]
theorem go_lk {od : Obj} {u : HO} {A B A' B' : Hp} (g : Go A B A' B') : Go (lk p od u A) (lk p od u B) (lk p od u A') (lk p od u B') :=
  ⟨same_lk g.ss, same_lk g.hh, same_lk g.sub, fun q h1 h2 => lk_dom.mpr (g.no q (fun z => h1 (lk_dom.mpr z)) (lk_dom.mp h2))⟩
theorem ulk_lk {od : Obj} {u : HO} {A : Hp} (h : ∀ o, A p = some o → o = u) : ulk p u (lk p od u A) = A := by
  funext q
  by_cases hq : q = p
  · subst hq
    cases hA : A q with
    | none => exact ulk_none (lk_none hA)
    | some x => rw [ulk_some (lk_some hA), h x hA]
  · rw [ulk_ne hq, lk_ne hq]
/-- back from a locked run -/
theorem go_back {od : Obj} {u : HO} {A B A' B' : Hp} (hA : ∀ o, A p = some o → o = u) (hB : ∀ o, B p = some o → o = u) (g : Go (lk p od u A) (lk p od u B) A' B') : Go A B (ulk p u A') (ulk p u B') := by
  refine ⟨?_, ?_, same_ulk g.sub, fun q h1 h2 => ulk_dom.mpr (g.no q (fun z => h1 (lk_dom.mp z)) (lk_dom.mpr h2))⟩
  · have := same_ulk (p := p) (u := u) g.ss
    rwa [ulk_lk hA] at this
  · have := same_ulk (p := p) (u := u) g.hh
    rwa [ulk_lk hB] at this
theorem Ok.swap {Bs B Hs H Bs' B' Hs' H' : Hp} {σ : L2.St} {δ : Sg} (o : Ok K Bs B Hs H σ δ) (g : Go Bs' B' Hs' H') (hp : Hs p ≠ none) (wB : Swap p kvs B B') (wS : Swap p kvs Hs Hs') (wH : ∀ q x, q ≠ p → H q = some x → H' q = some x) (dS : ∀ q, q ≠ p → Hs q = none → Hs' q = none) (dB : ∀ q, B q = none → B' q = none) : Ok K Bs' B' Hs' H' σ δ := by
  refine ⟨g, fun i s e => ?_, o.len, fun i s q e w e2 => dB q (o.fr i s q e w e2), o.ap⟩
  obtain ⟨v, h1, h2⟩ := o.slot i s e
  refine ⟨v, h1, ?_⟩
  cases s with
  | d d => exact Rp.swap wS h2
  | b d => exact Rp.swap wB h2
  | ol l =>
    obtain ⟨q, vs, e1, e2, e3, e4⟩ := h2
    have ne : q ≠ p := fun z => hp (z ▸ e2)
    exact ⟨q, vs, e1, dS q ne e2, wH q _ ne e3, RpAll.swap wS e4⟩
  | ok l =>
    obtain ⟨q, e1, e2, e3⟩ := h2
    have ne : q ≠ p := fun z => hp (z ▸ e2)
    exact ⟨q, e1, dS q ne e2, wH q _ ne e3⟩
  | ot l =>
    obtain ⟨q, e1, e2, e3⟩ := h2
    have ne : q ≠ p := fun z => hp (z ▸ e2)
    exact ⟨q, e1, dS q ne e2, wH q _ ne e3⟩
  | hb s =>
    obtain ⟨e1, dx, v1, v2, us, b1, b2, n1, n2, q1, q2, q3⟩ := h2
    have na : s.a ≠ p := fun z => hp (z ▸ n1)
    have nl : s.la ≠ p := fun z => hp (z ▸ n2)
    exact ⟨e1, dx, v1, v2, us, wB.other s.a _ na b1, wB.other s.la _ nl b2, dS s.a na n1, dS s.la nl n2, Rp.swap wS q1, Rp.swap wS q2, RpAll.swap wS q3⟩
end
section
variable {M : Md} {X : Cx} {k : Nat} {N : List Str} {sc cs : Scope} {δ δ' : Sg} {m : Bool} {Φ Ψ : Da → Prop} {x y : Str} {pos p2 p3 apos : Pos} {a b o tg it tg1 it1 kx vx : Expr} {es : List Expr} {nx bk ct : Sg → Prop} {rt : Da → Prop}
/-- the loop, the dict locked -/
def ForT (X : Cx) (es : List Expr) (body : List Stmt) (kvs : List (List Key × V)) (δ : Sg) (nx : Sg → Prop) (rt : Da → Prop) : Prop :=
  ∃ I : Nat → Sg → Prop, I 0 δ ∧ (∀ i q v δ', kvs[i]? = some (q, v) → I i δ' → q.length = es.length ∧ ∃ nm, DGs X es nm ((q.map kV).map Da.a) δ' fun δ2 => DB X body δ2 (I (i + 1)) rt nx (I (i + 1))) ∧ ∀ δ', I kvs.length δ' → nx δ'
theorem forT_run (S : Sc M X k N sc cs) {j : Nat} {tp : Pos} {body : List Stmt} {kvs : List (List Key × V)} (hg : Gt N δ x (.d (.dt kvs))) (hv : visB sc x = true) (h : ForT X es body kvs δ nx rt)
    (hn : (assignEach es X.env).length = es.length) (hst : (assignEach es X.env).findIdx? (·.1) = none) (hs : ∀ z, foldedSetIterable (.Name x p2) X.env z = pure z)
    {Bs B Hs H : Hp} {σ : L2.St} (o : Ok X.K Bs B Hs H σ δ) {D : Ends} (f : Fits X.K Bs B Hs nx rt bk ct D) {p : Addr} {od : Obj} (hp : Hs p = some (.frz od (.dT kvs))) (hσ : ∃ i : Nat, N[i]? = some x ∧ σ[i]? = some (some (.ref p))) : 
    WS X (.For (.Tuple es j tp) (.Name x p2) body [] pos) D σ H := by
  obtain ⟨v1, v2, v3⟩ := visB_ok hv
  obtain ⟨i, hi, hsi⟩ := hσ
  obtain ⟨I, i0, step, fin⟩ := h
  refine WS.of (ps_for S.po S.calm (pi_keys (pe_var (i := i) (by rw [S.n]; exact hi) (by rw [S.hsc]; exact v1) v2 v3)) (pg_tup S.calm pgs_W rfl hst) pb_W hs) ?_
  refine ⟨_, hsi, p, od, rfl, .inr ⟨kvs, o.sub _ _ hp, ?_⟩⟩
  refine for_it (walk_keysT (d := p) (o := od) (kvs := kvs)) (fun i σ2 H2 => ∃ Hs2 δ2, Same Hs Hs2 ∧ Ok X.K Bs B Hs2 H2 σ2 δ2 ∧ i ≤ kvs.length ∧ I i δ2) ?_ ?_ ?_ ?_
  · exact ⟨Hs, δ, Same.refl _, o, Nat.zero_le _, i0⟩
  · rintro i σ2 H2 hi ⟨Hs2, δ2, s2, o2, _⟩
    exact o2.sub _ _ (s2 _ _ hp)
  · rintro i x σ2 H2 H3 hi ⟨Hs2, δ2, s2, o2, _, pi⟩ ⟨rfl, q, v, r, hq, rfl, hr⟩
    obtain ⟨hql, nm, stp⟩ := step i q v δ2 hq pi
    refine ⟨r, q.map kV, rfl, .of hr, by rw [hn, List.length_map, hql], ?_⟩
    refine stp Bs B Hs2 H3 σ2 (q.map kV) o2 (RpAll.ofAtoms _) _ fun δ4 σ4 Hs4 H4 o4 g4 _ p4 => ?_
    have s4 := s2.trans g4.ss
    refine p4 Bs B Hs4 H4 σ4 o4 _ ⟨fun δ5 σ5 Hs5 H5 o5 s5 p5 => ⟨Hs5, δ5, s4.trans s5, o5, by omega, p5⟩, fun d v Hs' H' g s h r => f.rt d v Hs' H' g (s4.trans s) h r, fun δ5 σ5 Hs5 H5 o5 s5 p5 => f.nx δ5 σ5 Hs5 H5 o5 (s4.trans s5) p5, fun δ5 σ5 Hs5 H5 o5 s5 p5 => ⟨Hs5, δ5, s4.trans s5, o5, by omega, p5⟩⟩
  · rintro σ2 H2 ⟨Hs2, δ2, s2, o2, _, pi⟩
    exact f.nx δ2 σ2 Hs2 H2 o2 s2 (fin δ2 pi)
/-- for a, b in x: x a dict with tuple keys -/
theorem ds_forT (S : Sc M X k N sc cs) {j : Nat} {tp : Pos} {body : List Stmt} {kvs : List (List Key × V)} (hg : Gt N δ x (.d (.dt kvs))) (hv : visB sc x = true) (h : ForT X es body kvs δ nx rt)
    (hn : (assignEach es X.env).length = es.length := by rfl) (hst : (assignEach es X.env).findIdx? (·.1) = none := by rfl) (hs : ∀ z, foldedSetIterable (.Name x p2) X.env z = pure z := by intro _; rfl) :
    DS X (.For (.Tuple es j tp) (.Name x p2) body [] pos) δ nx rt bk ct := .mk fun Bs B Hs H σ o D f => by
  obtain ⟨i, h1, h2⟩ := hg.at
  obtain ⟨v, h3, r⟩ := o.slot i _ h2
  obtain ⟨p, rfl, hp⟩ := r.dt_inv
  rcases hp with hp | ⟨od, hp⟩
  · -- not locked yet
    have hH := o.sub _ _ hp
    have only : ∀ {G : Hp}, Same G H → ∀ o, G p = some o → o = .dT kvs := fun e o z => by
      have := e _ _ z
      rw [hH] at this
      exact (Option.some.inj this).symm
    have aBs := only (o.go.ss.trans o.sub)
    have aB := only o.go.hh
    have aHs := only o.sub
    have aH := only (Same.refl H)
    refine WS.of (ps_lock ps_W) ⟨p, _, hH, trivial, fun od => ?_⟩
    rw [← lk_upd hH]
    have o1 : Ok X.K (lk p od (.dT kvs) Bs) (lk p od (.dT kvs) B) (lk p od (.dT kvs) Hs) (lk p od (.dT kvs) H) σ δ :=
      o.swap (p := p) (go_lk o.go) (by rw [hp]; exact fun z => nomatch z) (swap_lk aB) (swap_lk aHs) (fun q x e z => by rw [lk_ne e]; exact z) (fun q e z => by rw [lk_ne e]; exact z) fun q z => lk_dom.mpr z
    have un : ∀ {δ' : Sg} {σ' : L2.St} {Hs' H' : Hp}, Ok X.K (lk p od (.dT kvs) Bs) (lk p od (.dT kvs) B) Hs' H' σ' δ' → Same (lk p od (.dT kvs) Hs) Hs' → H' p = some (.frz od (.dT kvs)) ∧ Ok X.K Bs B (ulk p (.dT kvs) Hs') (ulk p (.dT kvs) H') σ' δ' ∧ Same Hs (ulk p (.dT kvs) Hs') := fun {δ' σ' Hs' H'} o' s' => by
      have q1 : Hs' p = some (.frz od (.dT kvs)) := s' _ _ (lk_some hp)
      have q2 := o'.sub _ _ q1
      have uS : ∀ o, Hs' p = some o → o = .frz od (.dT kvs) := fun o z => by rw [q1] at z; exact (Option.some.inj z).symm
      have uB : ∀ o, (lk p od (.dT kvs) B) p = some o → o = .frz od (.dT kvs) := fun o z => by
        cases hB : B p with
        | none => rw [lk_none hB] at z; cases z
        | some w => rw [lk_some hB] at z; exact (Option.some.inj z).symm
      refine ⟨q2, ?_, ?_⟩
      · have wB := swap_ulk uB
        rw [ulk_lk aB] at wB
        exact o'.swap (p := p) (go_back aBs aB o'.go) (by rw [q1]; exact fun z => nomatch z) wB (swap_ulk uS) (fun q x e z => by rw [ulk_ne e]; exact z) (fun q e z => by rw [ulk_ne e]; exact z) fun q z => lk_dom.mp z
      · have := same_ulk (p := p) (u := .dT kvs) s'
        rwa [ulk_lk aHs] at this
    refine forT_run S hg hv h hn hst hs o1 (bk := bk) (ct := ct) ⟨fun δ' σ' Hs' H' o' s' h' => ?_, fun d v Hs' H' g' s' h' r' => ?_, fun δ' σ' Hs' H' o' s' h' => ?_, fun δ' σ' Hs' H' o' s' h' => ?_⟩ (lk_some hp) ⟨i, h1, h3⟩
    · obtain ⟨a1, a2, a3⟩ := un o' s'
      refine ⟨a1, ?_⟩
      rw [← ulk_upd a1]
      exact f.nx δ' σ' _ _ a2 a3 h'
    · have q1 : Hs' p = some (.frz od (.dT kvs)) := s' _ _ (lk_some hp)
      have q2 := g'.sub _ _ q1
      refine ⟨q2, ?_⟩
      rw [← ulk_upd q2]
      have s2 := same_ulk (p := p) (u := .dT kvs) s'
      rw [ulk_lk aHs] at s2
      exact f.rt d v _ _ (go_back aBs aB g') s2 h' (Rp.swap (swap_ulk fun o z => by rw [q1] at z; exact (Option.some.inj z).symm) r')
    · obtain ⟨a1, a2, a3⟩ := un o' s'
      refine ⟨a1, ?_⟩
      rw [← ulk_upd a1]
      exact f.bk δ' σ' _ _ a2 a3 h'
    · obtain ⟨a1, a2, a3⟩ := un o' s'
      refine ⟨a1, ?_⟩
      rw [← ulk_upd a1]
      exact f.ct δ' σ' _ _ a2 a3 h'
  · exact forT_run S hg hv h hn hst hs o f hp ⟨i, h1, h3⟩
end
end DL

/-! DL23: two own lists made at once; dict comprehensions of one clause; what types data have. -/
namespace DL
open PySem PySem.Spec PyProof.Rows L2
section
variable {M : Md} {X : Cx} {k : Nat} {N : List Str} {sc cs : Scope} {δ δ' : Sg} {m : Bool} {Φ Ψ : Da → Prop} {x y : Str} {pos p2 p3 p4 apos : Pos} {a b e o tg it kx vx : Expr} {es : List Expr} {nx bk ct : Sg → Prop} {rt : Da → Prop} {scope : Scope} {os : List Str}
/-- x, y = [], [e] -/
theorem ds_parOO (S : Sc M X k N sc cs) {px py pt : Pos} {kt k2 pt2} (h : DAt X (e :: es) δ fun ds => ∃ δ1 δ2, Ss N δ x (some (.ol [])) δ1 ∧ Ss N δ1 y (some (.ol ds)) δ2 ∧ nx δ2) (hxy : x ≠ y)
    (hx : (sc.names.lookup x == some .local) = true) (hy : (sc.names.lookup y == some .local) = true)
    (hw : ∀ env : Env, env.scope = sc → swappedStores [.Tuple [.Name x px, .Name y py] kt pt] (.Tuple [.List [] p3, .List (e :: es) p4] k2 pt2) env = pure (some [x, y]))
    (hN : N.contains x = true) (hN2 : N.contains y = true) (hz : (e :: es).length ≤ sizeLine := by decide)
    (hs : swapsWithSole [.Tuple [.Name x px, .Name y py] kt pt] (.Tuple [.List [] p3, .List (e :: es) p4] k2 pt2) pos.line X.env = pure false := by rfl)
    (h1 : starEach [.List [] p3, .List (e :: es) p4] X.env = (false, eval (.List [] p3) X.env) :: starEach [.List (e :: es) p4] X.env := by rfl) (h2 : starEach [.List (e :: es) p4] X.env = (false, eval (.List (e :: es) p4) X.env) :: starEach [] X.env := by rfl) :
    DS X (.Assign [.Tuple [.Name x px, .Name y py] kt pt] (.Tuple [.List [] p3, .List (e :: es) p4] k2 pt2) pos) δ nx rt bk ct := .mk fun Bs B Hs H σ o D f => by
  obtain ⟨i, hi⟩ : ∃ i : Nat, N[i]? = some x := List.mem_iff_getElem?.mp (by simpa using hN)
  obtain ⟨j, hj⟩ : ∃ i : Nat, N[i]? = some y := List.mem_iff_getElem?.mp (by simpa using hN2)
  have hij : i ≠ j := fun e => by
    rw [e, hj] at hi
    exact hxy (Option.some.inj hi).symm
  refine WS.of (ps_par (i := i) (j := j) S.calm (by rw [S.n]; exact S.nd) (by rw [S.n]; exact hi) (by rw [S.n]; exact hj) hij (by rw [S.hsc]; simpa using hx) (by rw [S.hsc]; simpa using hy) (pa_cons (pe_lst pa_nil) (pa_cons (pe_lst pa_W) pa_nil h2) h1) (hw _ S.hsc) hs) ?_
  refine ⟨Nat.zero_le _, fun p hp => ?_⟩
  -- the first list stands apart until both are made
  have o1 := o.mono (Go.own o.sub (p := p) (o := .lst []) hp)
  refine h Bs B Hs _ σ o1 _ fun ds vs Hs1 H1 g1 ⟨δ1, δ2, q1, q2, p2⟩ r hd => ⟨by rw [← r.len, hd]; exact hz, fun p' hp' => ?_⟩
  obtain ⟨i', e1, rfl⟩ := q1.at
  obtain rfl : i = i' := nodup_ix S.nd hi e1
  obtain ⟨j', e2, rfl⟩ := q2.at
  obtain rfl : j = j' := nodup_ix S.nd hj e2
  have hpH1 : H1 p = some (.lst []) := g1.hh _ _ upd_same
  have hpS : Hs1 p = none := g1.no p (by rw [upd_same]; exact fun z => nomatch z) (o.sub.free hp)
  have hB : B p = none := o.go.hh.free hp
  have o2 := o1.mono g1
  have np : ∀ (j : Nat) (s : SD) (q : Addr), δ[j]? = some (some s) → s.own = true → σ[j]? = some (some (.ref q)) → q ≠ p := fun j s q e w h z => by
    have := o.ownAt e w h
    rw [z] at this
    exact this hp
  have o3 := o2.adopt i (s0 := .ol []) hB np ⟨p, [], rfl, hpS, hpH1, .nil⟩
  exact ⟨.ref p, .ref p', rfl, f.nx _ _ Hs1 _ (o3.setO j (s0 := .ol ds) hp' ⟨p', vs, rfl, g1.sub.free hp', upd_same, r⟩) g1.ss p2⟩
/-- {key: value for a in l} -/
def DcKD (M : Md) (k : Nat) (N : List Str) (sc : Scope) (scope : Scope) (tg kx vx : Expr) (os : List Str) (δ : Sg) (ds : List Da) (Φ : Da → Prop) : Prop :=
  ∃ (δw : Sg) (P : Nat → List (Key × V) → Prop), Wp N os δ δw ∧ P 0 [] ∧
    (∀ X', Sc M X' k N (relS scope sc) scope → ∀ i d E, ds[i]? = some d → P i E → E.length < 1000000 ∧ DG X' tg os d δw fun δ2 => ∀ X', Sc M X' k N (relS scope sc) scope → DE X' kx δ2 fun y => ∀ X', Sc M X' k N (relS scope sc) scope → DE X' vx δ2 fun z => ∃ q v, y = .a (kV q) ∧ z = .a v ∧ P (i + 1) (E ++ [(q, v)])) ∧
    ∀ E, P ds.length E → Φ (.dk (putsE E))
theorem dcK_run (S : Sc M X k N sc cs) (kind : scope.kind = .function) (h : DI X tg it δ fun ds => DcKD M k N sc scope tg kx vx os δ ds Φ) {Bs B Hs H : Hp} {σ : L2.St} (o : Ok X.K Bs B Hs H σ δ) {Q : VK}
    (q : ∀ d v Hs' H', Go Hs H Hs' H' → Φ d → Rp X.K Hs' d v → Q v H') : tDc (WI X tg it) (WGb X scope tg) (WTb X scope []) (WEb X scope kx) (WEb X scope vx) ((ownOf N os).map (·.2)) σ H Q := by
  have nd := S.nd
  have sz : sizeLine = 16777216 := sizeLine_eq
  refine h Bs B Hs H σ o _ fun ds J G Y Hs1 H1 g1 ⟨δw, P, hw, p0, step, fin⟩ wk hG hY D hD => ?_
  have oD : ∀ (i : Nat) (s : SD) (q : Addr), δ[i]? = some (some s) → s.own = true → σ[i]? = some (some (.ref q)) → q ≠ D := fun i s q e w h z => (o.mono g1).ownAt e w h (by rw [z]; exact hD)
  have hD0 : H D = none := g1.hh.free hD
  have hB : B D = none := o.go.hh.free hD0
  refine ⟨fun i m H2 => m = ds.length - i ∧ i ≤ ds.length ∧ ∃ Hs2 E, Go Hs H Hs2 H2 ∧ Same Hs1 Hs2 ∧ Ok X.K Bs B Hs2 H2 σ δ ∧ Hs2 D = none ∧ H2 D = some (.dK (putsE E)) ∧ P i E,
    ⟨_, rfl, Nat.zero_le _, Hs1, [], g1.trans (Go.own g1.sub hD), Same.refl _, (o.mono g1).mono (Go.own g1.sub hD), g1.sub.free hD, upd_same, p0⟩, ?_⟩
  rintro i m H2 ⟨rfl, hi, Hs2, E, g2, s2, o2, hDs, hDv, pi⟩
  by_cases hlt : i < ds.length
  · refine .inr ⟨wk.goes i H2 hlt (hG Hs2 H2 s2 o2.sub), fun H' => ∃ Hs2 E, Go Hs H Hs2 H' ∧ Same Hs1 Hs2 ∧ Ok X.K Bs B Hs2 H' σ δ ∧ Hs2 D = none ∧ H' D = some (.dK (putsE E)) ∧ P (i + 1) E, fun H' p' => ⟨ds.length - (i + 1), by omega, rfl, hlt, p'⟩, fun x H3 hy => ?_⟩
    have hy := wk.yields i H2 x H3 hlt (hG Hs2 H2 s2 o2.sub) hy
    intro s H0 C cl fp pins s' u I r
    obtain ⟨d, hd⟩ : ∃ d, ds[i]? = some d := ⟨ds[i], by simp [hlt]⟩
    obtain ⟨Hs3, g3, rd⟩ := hY i d Hs2 H2 x H3 s2 o2.sub hd hy
    have hsl : σ.length = N.length := by
      have := I.len
      rw [wipe_length] at this
      rw [this]
      exact congrArg List.length S.n
    have nDs : ∀ {Hs' H' : Hp}, Go Hs2 H2 Hs' H' → Hs' D = none := fun g => g.no D (by rw [hDv]; exact fun z => nomatch z) hDs
    obtain ⟨hb, stp⟩ := step (X.blk s H0 scope (compEnvC scope cl C X.env) fp) (S.blk kind) i d E hd pi
    refine stp Bs B Hs3 H3 _ x ((o2.mono g3).wipe nd hw) rd _ (fun δ2 σ2 Hs4 H4 o4 g4 kp he => ?_) pins s' u I r
    have kp' : Keep N os (L2.wipe σ ((ownOf N os).map (·.2))) σ2 := by have z : Keep X.N os _ σ2 := kp; rwa [S.n] at z
    refine ⟨wipe_keep nd hsl kp' fun _ z => z, fun s H0 C cl fp pins s' I => WTs.of pts_nil (yesT ?_) pins s' I⟩
    intro s H0 C cl fp pins s' I
    refine he (X.blk s H0 scope (compEnvC scope cl C X.env) fp) (S.blk kind) Bs B Hs4 H4 σ2 o4 _ (fun y v Hs5 H5 g5 p5 r5 => ?_) pins s' I
    intro s H0 C cl fp pins s' I
    refine p5 (X.blk s H0 scope (compEnvC scope cl C X.env) fp) (S.blk kind) Bs B Hs5 H5 σ2 (o4.mono g5) _ (fun z w Hs6 H6 g6 ⟨qk, vw, ey, ez, p6⟩ r6 => ?_) pins s' I
    subst ey
    have ew : w = vw := by subst ez; exact r6.atom
    subst ew
    cases r5.atom
    have g36 := ((g3.trans g4).trans g5).trans g6
    have hl := putsE_len E
    refine ⟨putsE E, qk, rfl, g36.hh _ _ hDv, by omega, Hs6, E ++ [(qk, w)], ?_⟩
    rw [putsE_snoc]
    exact ⟨(g2.trans g36).mut hD0 (nDs g36), s2.trans g36.ss, (o2.mono g36).other (nDs g36) hB oD, nDs g36, upd_same, p6⟩
  · obtain rfl : i = ds.length := by omega
    exact .inl ⟨wk.stops H2 (hG Hs2 H2 s2 o2.sub), q _ _ _ _ (g2.freeze hD0 hDs hDv) (fin E pi) (.dk upd_same)⟩
theorem de_dcK (S : Sc M X k N sc cs) (h : DI X tg it δ fun ds => DcKD M k N sc scope tg kx vx os δ ds Φ) (hk : blkB N sc scope os = true)
    (hs : ∀ x, foldedSetIterable it X.env x = pure x := by intro _; rfl) : DM X m (.DictComp kx vx [⟨tg, it, [], 0⟩] scope pos) δ Φ := DM.of <| .mk fun Bs B Hs H σ o Q q => by
  have ok : BlkOk X.N X.env.scope scope (ownOf N os) := by rw [S.n, S.hsc]; exact blkOk_by hk
  exact WE.of (pe_dc S.calm (by rw [S.n]; exact S.nd) pi_W ok pgb_W ptb_W peb_W peb_W hs) (dcK_run S ok.kind h o q)
theorem dcK_map {α : Type} {l : List α} {g : α → Da} {f : α → Key × V} {δw : Sg} (hw : Wp N os δ δw) (hz : l.length ≤ 1000000)
    (h : ∀ X', Sc M X' k N (relS scope sc) scope → ∀ a ∈ l, DG X' tg os (g a) δw fun δ2 => ∀ X', Sc M X' k N (relS scope sc) scope → DE X' kx δ2 fun y => ∀ X', Sc M X' k N (relS scope sc) scope → DE X' vx δ2 fun z => y = .a (kV (f a).1) ∧ z = .a (f a).2)
    (fin : Φ (.dk (putsE (l.map f)))) : DcKD M k N sc scope tg kx vx os δ (l.map g) Φ := by
  refine ⟨δw, fun i E => E = (l.take i).map f, hw, rfl, fun X' S' i d E hi hp => ?_, fun E hp => ?_⟩
  · rw [List.getElem?_map] at hi
    obtain ⟨a, ha, rfl⟩ := Option.map_eq_some_iff.mp hi
    have hil := (List.getElem?_eq_some_iff.mp ha).1
    have hd := h X' S' a (List.mem_of_getElem? ha)
    refine ⟨?_, ?_⟩
    · rw [hp, List.length_map, List.length_take]
      omega
    · refine .mk fun Bs B Hs H σ v o r Q q => hd Bs B Hs H σ v o r Q fun δ' σ' Hs' H' o' g' kp h5 => q δ' σ' Hs' H' o' g' kp fun X4 S4 => (h5 X4 S4).imp fun y ey X5 S5 => (ey X5 S5).imp fun z ez => ⟨(f a).1, (f a).2, ez.1, ez.2, ?_⟩
      dsimp only
      rw [hp, List.take_add_one, ha, Option.toList_some, List.map_append]
      rfl
  · rw [List.length_map, List.take_length] at hp
    rw [hp]
    exact fin
end
/-! ### types -/
def tyNames : List String := ["NoneType", "bool", "int", "str", "list", "tuple", "dict"]
def isT (T : String) (d : Da) : Bool := kitB (tyD d) T == some true
theorem kit_tab : ∀ a ∈ tyNames, ∀ T ∈ ["int", "bool", "str", "tuple", "list"], kitB a T = some (kitB a T == some true) := by decide +kernel
theorem tyD_mem {d : Da} (h : TyK d) : tyD d ∈ tyNames := by
  cases d with
  | a v =>
    cases v with
    | non => exact (by decide : "NoneType" ∈ tyNames)
    | bl b => exact (by decide : "bool" ∈ tyNames)
    | int i => exact (by decide : "int" ∈ tyNames)
    | str x => exact (by decide : "str" ∈ tyNames)
    | byt b => exact h.elim
    | flt b => exact h.elim
    | ref p => exact h.elim
    | ty n => exact h.elim
  | lst l => exact (by decide : "list" ∈ tyNames)
  | tup l => exact (by decide : "tuple" ∈ tyNames)
  | dk l => exact (by decide : "dict" ∈ tyNames)
  | dt l => exact h.elim
  | drw => exact h.elim
  | scr l => exact h.elim
theorem kit_is {d : Da} (h : TyK d) {T : String} (hT : T ∈ ["int", "bool", "str", "tuple", "list"]) : kitB (tyD d) T = some (isT T d) := kit_tab _ (tyD_mem h) T hT
section
variable {X : Cx} {Φ : Da → Prop}
theorem bw_is {d : Da} (h : TyK d) {T : String} (hT : T ∈ ["int", "bool", "str", "tuple", "list"]) (p : Φ (.bl (isT T d))) : BW X (.builtin "isinstance") [d, .a (.ty T)] Φ := bw_isi h (kit_is h hT) p
theorem bw_is2 {d : Da} (h : TyK d) {T U : String} (hT : T ∈ ["int", "bool", "str", "tuple", "list"]) (hU : U ∈ ["int", "bool", "str", "tuple", "list"]) (p : Φ (.bl (isT T d || isT U d))) : BW X (.builtin "isinstance") [d, .tup [.a (.ty T), .a (.ty U)]] Φ := bw_isi2 h (kit_is h hT) (kit_is h hU) p
end
theorem isT_int {i : Int} : isT "int" (.int i) = true := (by decide +kernel : (kitB "int" "int" == some true) = true)
theorem isT_tup {l : List Da} : isT "tuple" (.tup l) = true := (by decide +kernel : (kitB "tuple" "tuple" == some true) = true)
theorem isT_lst {l : List Da} : isT "list" (.lst l) = true := (by decide +kernel : (kitB "list" "list" == some true) = true)
theorem isT_str {x : Str} : isT "str" (.str x) = true := (by decide +kernel : (kitB "str" "str" == some true) = true)
theorem isB_int {i : Int} : isT "bool" (.int i) = false := (by decide +kernel : (kitB "int" "bool" == some true) = false)
theorem isB_bl {b : Bool} : isT "bool" (.bl b) = true := (by decide +kernel : (kitB "bool" "bool" == some true) = true)
theorem kit_no : ∀ a ∈ tyNames, ∀ T ∈ ["int", "bool", "str", "tuple", "list"], (kitB a T == some true) = true → a = T ∨ (a = "bool" ∧ T = "int") := by decide +kernel
theorem isT_eq {d : Da} {T : String} (hT : T ∈ ["int", "bool", "str", "tuple", "list"]) (k : TyK d) (h : isT T d = true) : tyD d = T ∨ (tyD d = "bool" ∧ T = "int") := kit_no _ (tyD_mem k) T hT h
/-- what has a type's name is of its shape -/
theorem sh_tup {d : Da} (k : TyK d) (h : tyD d = "tuple") : ∃ l, d = .tup l := by
  cases d with
  | tup l => exact ⟨l, rfl⟩
  | a v => cases v <;> first | exact k.elim | exact absurd h (by unfold tyD; simp)
  | lst l => exact absurd h (by unfold tyD; simp)
  | dk l => exact absurd h (by unfold tyD; simp)
  | dt l => exact k.elim
  | drw => exact k.elim
  | scr l => exact k.elim
theorem sh_lst {d : Da} (k : TyK d) (h : tyD d = "list") : ∃ l, d = .lst l := by
  cases d with
  | lst l => exact ⟨l, rfl⟩
  | a v => cases v <;> first | exact k.elim | exact absurd h (by unfold tyD; simp)
  | tup l => exact absurd h (by unfold tyD; simp)
  | dk l => exact absurd h (by unfold tyD; simp)
  | dt l => exact k.elim
  | drw => exact k.elim
  | scr l => exact k.elim
theorem sh_str {d : Da} (k : TyK d) (h : tyD d = "str") : ∃ x, d = .str x := by
  cases d with
  | a v => cases v with
    | str x => exact ⟨x, rfl⟩
    | _ => first | exact k.elim | exact absurd h (by unfold tyD; simp)
  | lst l => exact absurd h (by unfold tyD; simp)
  | tup l => exact absurd h (by unfold tyD; simp)
  | dk l => exact absurd h (by unfold tyD; simp)
  | dt l => exact k.elim
  | drw => exact k.elim
  | scr l => exact k.elim
theorem sh_int {d : Da} (k : TyK d) (h : tyD d = "int") : ∃ i, d = .int i := by
  cases d with
  | a v => cases v with
    | int i => exact ⟨i, rfl⟩
    | _ => first | exact k.elim | exact absurd h (by unfold tyD; simp)
  | lst l => exact absurd h (by unfold tyD; simp)
  | tup l => exact absurd h (by unfold tyD; simp)
  | dk l => exact absurd h (by unfold tyD; simp)
  | dt l => exact k.elim
  | drw => exact k.elim
  | scr l => exact k.elim
theorem sh_bl {d : Da} (k : TyK d) (h : tyD d = "bool") : ∃ b, d = .bl b := by
  cases d with
  | a v => cases v with
    | bl b => exact ⟨b, rfl⟩
    | _ => first | exact k.elim | exact absurd h (by unfold tyD; simp)
  | lst l => exact absurd h (by unfold tyD; simp)
  | tup l => exact absurd h (by unfold tyD; simp)
  | dk l => exact absurd h (by unfold tyD; simp)
  | dt l => exact k.elim
  | drw => exact k.elim
  | scr l => exact k.elim
theorem tup_of {d : Da} (h : isT "tuple" d = true) (k : TyK d) : ∃ l, d = .tup l := by
  rcases isT_eq (by decide) k h with e | ⟨_, e⟩
  · exact sh_tup k e
  · exact absurd e (by decide)
theorem lst_of {d : Da} (h : isT "list" d = true) (k : TyK d) : ∃ l, d = .lst l := by
  rcases isT_eq (by decide) k h with e | ⟨_, e⟩
  · exact sh_lst k e
  · exact absurd e (by decide)
theorem str_of {d : Da} (h : isT "str" d = true) (k : TyK d) : ∃ x, d = .str x := by
  rcases isT_eq (by decide) k h with e | ⟨_, e⟩
  · exact sh_str k e
  · exact absurd e (by decide)
theorem bl_of {d : Da} (h : isT "bool" d = true) (k : TyK d) : ∃ b, d = .bl b := by
  rcases isT_eq (by decide) k h with e | ⟨_, e⟩
  · exact sh_bl k e
  · exact absurd e (by decide)
theorem int_of {d : Da} (h : isT "int" d = true) (h2 : isT "bool" d = false) (k : TyK d) : ∃ i, d = .int i := by
  rcases isT_eq (by decide) k h with e | ⟨e, _⟩
  · exact sh_int k e
  · obtain ⟨b, rfl⟩ := sh_bl k e
    rw [isB_bl] at h2
    cases h2
theorem Shp.tyK {n : Nat} {d : Da} (h : Shp n d) : TyK d := by cases h <;> trivial
end DL

/-! DL24: comprehensions over data as they stand; two clauses kept by a name; how many keys. -/
namespace DL
open PySem PySem.Spec PyProof.Rows L2
section
variable {M : Md} {X : Cx} {k : Nat} {N : List Str} {sc cs : Scope} {δ δ' : Sg} {m : Bool} {Φ Ψ : Da → Prop} {x y : Str} {pos p2 p3 p4 apos : Pos} {a b e o c tg it tg1 it1 kx vx : Expr} {es : List Expr} {nx bk ct : Sg → Prop} {rt : Da → Prop} {scope : Scope} {os0 os os1 : List Str} {ifs : List Expr}
theorem map_self {α : Type} (l : List α) : l.map (fun d => d) = l := by simp
/-- [f(d) for d in l] -/
theorem lc_mapI {l : List Da} {f : Da → Da} {δw : Sg} (hw : Wp N os δ δw) (hz : l.length ≤ 1000000)
    (h : ∀ X', Sc M X' k N (relS scope sc) scope → ∀ d ∈ l, DG X' tg os d δw fun δ2 => ∀ X', Sc M X' k N (relS scope sc) scope → DE X' e δ2 fun y => y = f d) (fin : Φ (.lst (l.map f))) : LcD M X k N sc scope tg e [] os δ l Φ := by
  have := lc_map (M := M) (X := X) (k := k) (sc := sc) (scope := scope) (tg := tg) (e := e) (os := os) (δ := δ) (Φ := Φ) (l := l) (g := fun d => d) (f := f) hw hz h fin
  rwa [map_self] at this
theorem lc2_mapI {l : List Da} {mm : Da → List Da} {f : Da → Da → Da} {δw : Sg} (hw : Wp N os δ δw) (hz : (l.flatMap mm).length ≤ 1000000)
    (h : ∀ X', Sc M X' k N (relS scope sc) scope → ∀ a ∈ l, DG X' tg os0 a δw fun δ2 => noOwn δ2 = true ∧ ∃ δ2w, Wp N os1 δ2 δ2w ∧ ∀ X', Sc M X' k N (relS scope sc) scope → DI X' tg1 it1 δ2 fun ds1 => ds1 = (mm a).map (fun d => d) ∧
      ∀ X', Sc M X' k N (relS scope sc) scope → ∀ b ∈ mm a, DG X' tg1 os1 b δ2w fun δ3 => ∀ X', Sc M X' k N (relS scope sc) scope → DE X' e δ3 fun y => y = f a b)
    (fin : Φ (.lst (l.flatMap fun a => (mm a).map (f a)))) : Lc2D M k N sc scope tg tg1 it1 e os0 os os1 δ l Φ := by
  have := lc2_map (M := M) (k := k) (sc := sc) (scope := scope) (tg := tg) (tg1 := tg1) (it1 := it1) (e := e) (os0 := os0) (os := os) (os1 := os1) (δ := δ) (Φ := Φ) (l := l) (g := fun d => d) (mm := mm) (g1 := fun _ d => d) (f := f) hw hz h fin
  rwa [map_self] at this
/-- y = [e for .. for ..] -/
theorem ds_setLc2 (S : Sc M X k N sc cs) {py lp : Pos} (h : DI X tg it δ fun ds => Lc2D M k N sc scope tg tg1 it1 e os0 os os1 δ ds fun d => ∃ δ', Ss N δ y (some (.d d)) δ' ∧ nx δ') (hk : blkB N sc scope os = true) (hn0 : ∀ x ∈ os0, x ∈ os) (hn1 : ∀ x ∈ os1, x ∈ os)
    (hy : (sc.names.lookup y == some .local && (py.line == lp.line) && !(scope.names.any fun (n, k) => n == y && (k == .local || k == .cell))) = true) (hN : N.contains y = true)
    (hs : ∀ x, foldedSetIterable it X.env x = pure x := by intro _; rfl) (hs1 : ∀ env x, foldedSetIterable it1 env x = pure x := by intro _ _; rfl) :
    DS X (.Assign [.Name y py] (.ListComp e [⟨tg, it, [], 0⟩, ⟨tg1, it1, [], 0⟩] scope lp) pos) δ nx rt bk ct := .mk fun Bs B Hs H σ o D f => by
  have ok : BlkOk X.N X.env.scope scope (ownOf N os) := by rw [S.n, S.hsc]; exact blkOk_by hk
  have hv : ∀ i ∈ (ownOf N os1).map (·.2), i ∈ (ownOf N os).map (·.2) := fun i hi => by
    unfold ownOf at hi ⊢
    rw [List.map_map] at hi ⊢
    obtain ⟨z, hz, rfl⟩ := List.mem_map.mp hi
    exact List.mem_map.mpr ⟨z, hn1 z hz, rfl⟩
  simp only [Bool.and_eq_true, beq_iff_eq, Bool.not_eq_true'] at hy
  obtain ⟨⟨h1, h2⟩, h3⟩ := hy
  intro pins s I
  obtain ⟨i, hi⟩ : ∃ i : Nat, N[i]? = some y := List.mem_iff_getElem?.mp (by simpa using hN)
  have hkd : X.env.scope.kind = .function := by rw [S.hsc]; exact S.kind
  refine WS.of (ps_setLc2 (i := i) S.calm (by rw [S.n]; exact S.nd) (by rw [S.n]; exact hi) (by rw [S.hsc]; exact h1) (sw_true hkd (by rw [S.hsc]; exact h1) (by simpa using h2) h3) pi_W ok hv pgb_W ptb_W pib_W pgb_W ptb_W peb_W hs hs1) ?_ pins s I
  refine lc2_run S ok.kind hn0 h o fun d v Hs' H' g ⟨δ', hd, p⟩ r => ?_
  obtain ⟨j, h5, rfl⟩ := hd.at
  obtain rfl : i = j := nodup_ix S.nd hi h5
  exact f.nx _ _ Hs' H' ((o.mono g).setD i r) g.ss p
end
/-! ### how many keys -/
section
variable {κ : Type} [DecidableEq κ]
theorem putsE_has (E : List (κ × V)) (q : κ) : (valV (putsE E) q).isSome = decide (q ∈ E.map (·.1)) := by
  suffices H : ∀ E : List (κ × V), (valV (putsE E.reverse) q).isSome = decide (q ∈ E.map (·.1)) by
    have := H E.reverse
    rw [List.reverse_reverse] at this
    rw [this]
    simp
  intro E
  induction E with
  | nil => rfl
  | cons p E ih =>
    obtain ⟨q', v⟩ := p
    rw [List.reverse_cons, putsE_snoc, valV_put]
    by_cases e : q = q'
    · rw [if_pos e]
      simp [e]
    · rw [if_neg e, ih]
      simp [e]
theorem putK_old {kvs : List (κ × V)} {q : κ} (v : V) (h : (valV kvs q).isSome = true) : (putK kvs q v).length = kvs.length := by
  unfold putK
  rw [valV_any, if_pos h, List.length_map]
/-- as many as there are, where none is there twice -/
theorem putsE_count (E : List (κ × V)) : ((putsE E).length = E.length) ↔ (E.map (·.1)).Nodup := by
  suffices H : ∀ E : List (κ × V), ((putsE E.reverse).length = E.length) ↔ (E.map (·.1)).Nodup by
    have := H E.reverse
    rw [List.reverse_reverse, List.length_reverse] at this
    rw [this, List.map_reverse]
    exact (List.reverse_perm _).nodup_iff
  intro E
  induction E with
  | nil => simp [putsE]
  | cons p E ih =>
    obtain ⟨q, v⟩ := p
    rw [List.reverse_cons, putsE_snoc]
    have hl := putsE_len E.reverse
    rw [List.length_reverse] at hl
    have hh := putsE_has E.reverse q
    rw [List.map_cons, List.nodup_cons]
    by_cases e : q ∈ E.map (·.1)
    · have h1 : (valV (putsE E.reverse) q).isSome = true := by rw [hh]; simpa using e
      rw [putK_old v h1]
      constructor
      · intro z
        rw [List.length_cons] at z
        omega
      · intro z
        exact absurd e z.1
    · have h1 : valV (putsE E.reverse) q = none := by
        have : (valV (putsE E.reverse) q).isSome = false := by rw [hh]; simpa using e
        exact Option.isNone_iff_eq_none.mp (by simpa using this)
      rw [putK_new v h1, List.length_append, List.length_singleton, List.length_cons]
      constructor
      · intro z
        exact ⟨e, ih.mp (by omega)⟩
      · intro z
        have := ih.mpr z.2
        omega
end
end DL

/-! DL25: an own list made by list(..), its items changed: x[i] = v, x.insert(i, v), x.pop(i), x[a:b] = y; its slices. -/
namespace DL
open PySem PySem.Spec PyProof.Rows L2
section
variable {K : PySem.W.Frag} {H : Hp}
theorem RpAll.erase : ∀ {ds : List Da} {vs : List V}, RpAll K H ds vs → ∀ j, RpAll K H (ds.eraseIdx j) (vs.eraseIdx j)
  | _, _, .nil, _ => .nil
  | _, _, .cons _ t, 0 => t
  | _, _, .cons r t, j + 1 => .cons r (t.erase j)
theorem RpAll.takes : ∀ {ds : List Da} {vs : List V}, RpAll K H ds vs → ∀ j, RpAll K H (ds.take j) (vs.take j)
  | _, _, .nil, j => by rw [List.take_nil, List.take_nil]; exact .nil
  | _, _, .cons _ _, 0 => .nil
  | _, _, .cons r t, j + 1 => .cons r (t.takes j)
theorem RpAll.drops : ∀ {ds : List Da} {vs : List V}, RpAll K H ds vs → ∀ j, RpAll K H (ds.drop j) (vs.drop j)
  | _, _, .nil, j => by rw [List.drop_nil, List.drop_nil]; exact .nil
  | _, _, .cons r t, 0 => .cons r t
  | _, _, .cons _ t, j + 1 => t.drops j
end
section
variable {M : Md} {X : Cx} {k : Nat} {N : List Str} {sc cs : Scope} {δ δ' : Sg} {m : Bool} {Φ Ψ : Da → Prop} {x y : Str} {pos p2 p3 p4 apos : Pos} {a b e o c tg it lo hi : Expr} {es : List Expr} {nx bk ct : Sg → Prop} {rt : Da → Prop}
/-- x = list(e) -/
theorem ds_ownOf (S : Sc M X k N sc cs) {f : Str} (hm : M.mg f = none) (hv : bootBuiltins f = some (.type "list")) (hgl : glB sc f = true) (h : DAt X [e] δ fun ds => ∃ l, (ds = [.lst l] ∨ ds = [.tup l]) ∧ ∃ δ', Ss N δ x (some (.ol l)) δ' ∧ nx δ') (hl : locB cs x = true) (hN : N.contains x = true)
    (he : starEach [e] X.env = (false, eval e X.env) :: starEach [] X.env := by rfl) (hpl : (backTo p4 (starEach [] X.env)).any (·.1) = false := by rfl)
    (hs : swapsWith (.Call (.Name f p3) [e] [] p4) (some (.Name x p2)) pos.line X.env = pure false := by rfl) : DS X (.Assign [.Name x p2] (.Call (.Name f p3) [e] [] p4) pos) δ nx rt bk ct := .mk fun Bs B Hs H σ o D fi => by
  obtain ⟨i, hi⟩ : ∃ i : Nat, N[i]? = some x := List.mem_iff_getElem?.mp (by simpa using hN)
  obtain ⟨g1, g2, g3⟩ := glB_ok hgl
  refine WS.of (ps_set (i := i) (by rw [S.n]; exact S.nd) (by rw [S.n]; exact hi) (S.fn x hl).1 (pe_callTy rCW_ok (by show X.env.scope.names.lookup f = _; rw [S.hsc]; exact g1) (by rw [S.hmg]; exact hm) hv pa_W g3 g2 he hpl) hs (S.fn x hl).2) ?_
  refine h Bs B Hs H σ o _ fun ds vs Hs1 H1 g ⟨l, hd, δ', h1, h2⟩ r _ => ?_
  obtain ⟨j, h3, rfl⟩ := h1.at
  obtain rfl : i = j := nodup_ix S.nd hi h3
  have o1 := o.mono g
  rcases hd with rfl | rfl
  · cases r with
    | cons r t =>
      cases t
      obtain ⟨a, ws, rfl, ha, ra⟩ := r.lst_inv
      exact rCW_of call_list_of ⟨a, ws, rfl, .inl (.of (g.sub _ _ ha)), fun p hp => fi.nx _ _ Hs1 _ (o1.setO i (s0 := .ol l) hp ⟨p, ws, rfl, g.sub.free hp, upd_same, ra⟩) g.ss h2⟩
  · cases r with
    | cons r t =>
      cases t
      obtain ⟨a, ws, rfl, ha, ra⟩ := r.tup_inv
      exact rCW_of call_list_of ⟨a, ws, rfl, .inr (.of (g.sub _ _ ha)), fun p hp => fi.nx _ _ Hs1 _ (o1.setO i (s0 := .ol l) hp ⟨p, ws, rfl, g.sub.free hp, upd_same, ra⟩) g.ss h2⟩
/-- x[b] = e, x an own list -/
theorem ds_itemL (S : Sc M X k N sc cs) {l : List Da} (hg : Gt N δ x (.ol l)) (hv : visB sc x = true) (h : DE X e δ fun d => DE X b δ fun y => ∃ i j, y = .int i ∧ ixN l.length i = some j ∧ ∃ δ', Ss N δ x (some (.ol (l.set j d))) δ' ∧ nx δ')
    (hs : swapsWithSole [.Subscript (.Name x p2) b p3] e pos.line X.env = pure false := by rfl) (hw : swappedStores [.Subscript (.Name x p2) b p3] e X.env = pure none := by rfl)
    (h1 : (assignEach [.Subscript (.Name x p2) b p3] X.env).map (·.2) = [assign (.Subscript (.Name x p2) b p3) X.env] := by rfl)
    (ha : ∀ v, assign (.Subscript (.Name x p2) b p3) X.env v = (do
      let ov ← holding [v] (eval (.Name x p2) X.env)
      let iv ← holding [v, ov] (eval b X.env)
      standAt p3
      holding [v, ov, iv] (setItem ov iv v)
      release [v, ov, iv] []) := by intro _; rfl) : DS X (.Assign [.Subscript (.Name x p2) b p3] e pos) δ nx rt bk ct := .mk fun Bs B Hs H σ o D f => by
  obtain ⟨i, hi, h2⟩ := hg.at
  obtain ⟨v, h3, p, vs, rfl, e1, e2, r⟩ := o.slot i _ h2
  obtain ⟨v1, v2, v3⟩ := visB_ok hv
  refine WS.of (ps_asg pe_W (pg_sub (pe_var (i := i) (by rw [S.n]; exact hi) (by rw [S.hsc]; exact v1) v2 v3) pe_W set_list ha) hs hw h1)
    (h Bs B Hs H σ o _ fun d w Hs1 H1 g1 q1 r1 => ⟨_, h3, q1 Bs B Hs1 H1 σ (o.mono g1) _ fun y z Hs2 H2 g2 ⟨n, j, ey, hj, δ', hd, pd⟩ r2 => ?_⟩)
  subst ey
  cases r2.atom
  obtain ⟨j2, h5, rfl⟩ := hd.at
  obtain rfl : i = j2 := nodup_ix S.nd hi h5
  have g := g1.trans g2
  have o1 := o.mono g
  have e3 := g.no p (by rw [e2]; exact fun z => nomatch z) e1
  exact ⟨p, vs, n, j, rfl, rfl, g.hh _ _ e2, by rw [← r.len]; exact hj, f.nx _ _ Hs2 _ (o1.chg (s1 := .ol (l.set j d)) h2 rfl rfl h3 e3 ⟨p, vs.set j w, rfl, e3, upd_same, RpAll.set j (r.mono g.ss) (Rp.mono g2.ss r1)⟩) g.ss pd⟩
/-- x.insert(a, e) -/
theorem ds_insert (S : Sc M X k N sc cs) {l : List Da} (hg : Gt N δ x (.ol l)) (hv : visB sc x = true) (hz : l.length < 1000000) (h : DE X a δ fun y => DE X e δ fun d => ∃ i, y = .int i ∧ 0 ≤ i ∧ i < 1000000 ∧ ∃ δ', Ss N δ x (some (.ol (l.take i.toNat ++ [d] ++ l.drop i.toNat))) δ' ∧ nx δ')
    (hfew : ((backTo p3 (starEach [a, e] X.env)).all (fun x => !x.1) && (backToKw p3 (keywordEach [] X.env)).all (fun x => x.1.isSome)
      && decide ([a, e].length + ([] : List Keyword).length + (if ([] : List Keyword).isEmpty then 0 else 1) < 30)) = true := by rfl)
    (hline : (apos.endLine == p3.line) = true := by rfl) (hst : starEach [a, e] X.env = (false, eval a X.env) :: starEach [e] X.env := by rfl) (hst2 : starEach [e] X.env = (false, eval e X.env) :: starEach [] X.env := by rfl) (hpl : ((backTo p3 (starEach [e] X.env)).any fun x => x.1) = false := by rfl) :
    DS X (.Expr (.Call (.Attribute (.Name x p2) "insert" apos) [a, e] [] p3) pos) δ nx rt bk ct := .mk fun Bs B Hs H σ o D f => by
  obtain ⟨i, h1, h2⟩ := hg.at
  obtain ⟨v, h3, p, vs, rfl, e1, e2, r⟩ := o.slot i _ h2
  obtain ⟨v1, v2, v3⟩ := visB_ok hv
  refine WS.of (ps_expr (pe_bm PySem.F.plainAttrs_list PySem.F.slot_list_insert PySem.F.type_list_insert mt_insert (pe_var (i := i) (by rw [S.n]; exact h1) (by rw [S.hsc]; exact v1) v2 v3) (pa_cons pe_W (pa_cons pe_W pa_nil hst2) hst) rfl hfew hline hst hpl) rfl)
    ⟨_, h3, .inl ⟨rfl, _, .of e2⟩, h Bs B Hs H σ o _ fun y z Hs1 H1 g1 hy ry => hy Bs B Hs1 H1 σ (o.mono g1) _ fun d w Hs' H' g2 ⟨n, ey, hn0, hn1, δ', hd, pd⟩ rb => ?_⟩
  subst ey
  cases ry.atom
  obtain ⟨j, h5, rfl⟩ := hd.at
  obtain rfl : i = j := nodup_ix S.nd h1 h5
  have g := g1.trans g2
  have o1 := o.mono g
  have e3 := g.no p (by rw [e2]; exact fun z => nomatch z) e1
  have hr := r.mono g.ss
  refine ⟨p, vs, n, _, rfl, rfl, g.hh _ _ e2, ?_, hn0, by omega, f.nx _ _ Hs' _ (o1.chg (s1 := .ol (l.take n.toNat ++ [d] ++ l.drop n.toNat)) h2 rfl rfl h3 e3 ⟨p, _, rfl, e3, upd_same, ((hr.takes _).app (.cons rb .nil)).app (hr.drops _)⟩) g.ss pd⟩
  have := r.len
  have : sizeLine = 16777216 := sizeLine_eq
  omega
/-- x.pop(e) -/
theorem ds_popAt (S : Sc M X k N sc cs) {l : List Da} (hg : Gt N δ x (.ol l)) (hv : visB sc x = true) (h : DE X e δ fun y => ∃ i : Nat, y = .int (i : Int) ∧ i < l.length ∧ l.length < 1000000 ∧ ∃ δ', Ss N δ x (some (.ol (l.eraseIdx i))) δ' ∧ nx δ')
    (hfew : ((backTo p3 (starEach [e] X.env)).all (fun x => !x.1) && (backToKw p3 (keywordEach [] X.env)).all (fun x => x.1.isSome)
      && decide ([e].length + ([] : List Keyword).length + (if ([] : List Keyword).isEmpty then 0 else 1) < 30)) = true := by rfl)
    (hline : (apos.endLine == p3.line) = true := by rfl) (hst : starEach [e] X.env = (false, eval e X.env) :: starEach [] X.env := by rfl) :
    DS X (.Expr (.Call (.Attribute (.Name x p2) "pop" apos) [e] [] p3) pos) δ nx rt bk ct := .mk fun Bs B Hs H σ o D f => by
  obtain ⟨i, h1, h2⟩ := hg.at
  obtain ⟨v, h3, p, vs, rfl, e1, e2, r⟩ := o.slot i _ h2
  obtain ⟨v1, v2, v3⟩ := visB_ok hv
  refine WS.of (ps_expr (pe_bm PySem.F.plainAttrs_list PySem.F.slot_list_pop PySem.F.type_list_pop mt_popAt (pe_var (i := i) (by rw [S.n]; exact h1) (by rw [S.hsc]; exact v1) v2 v3) (pa_cons pe_W pa_nil hst) rfl hfew hline hst rfl) rfl)
    ⟨_, h3, .inl ⟨rfl, _, .of e2⟩, h Bs B Hs H σ o _ fun y z Hs' H' g ⟨n, ey, hn, hz, δ', hd, pd⟩ ry => ?_⟩
  subst ey
  cases ry.atom
  obtain ⟨j, h5, rfl⟩ := hd.at
  obtain rfl : i = j := nodup_ix S.nd h1 h5
  have o1 := o.mono g
  have e3 := g.no p (by rw [e2]; exact fun z => nomatch z) e1
  have hr := r.mono g.ss
  have hl := r.len
  refine ⟨p, vs, n, n, vs[n], rfl, rfl, g.hh _ _ e2, by omega, by omega, ?_, List.getElem?_eq_getElem (by omega), f.nx _ _ Hs' _ (o1.chg (s1 := .ol (l.eraseIdx n)) h2 rfl rfl h3 e3 ⟨p, _, rfl, e3, upd_same, hr.erase n⟩) g.ss pd⟩
  unfold seqIndex?
  simp
  omega
/-- a slice of an own list -/
theorem de_sliceO (S : Sc M X k N sc cs) {l : List Da} (hg : Gt N δ x (.ol l)) (hv : visB sc x = true) (h : DP X (some lo) δ fun u => DP X (some hi) δ fun w => Φ (.lst (cutL l u w))) : DM X m (.Subscript (.Name x p3) (.Slice (some lo) (some hi) none p2) pos) δ Φ := DM.of <| .mk fun Bs B Hs H σ o Q q => by
  obtain ⟨i, h1, h2⟩ := hg.at
  obtain ⟨v, h3, p, vs, rfl, e1, e2, r⟩ := o.slot i _ h2
  obtain ⟨v1, v2, v3⟩ := visB_ok hv
  refine WE.of (pe_slice rSW_ok (pe_var (i := i) (by rw [S.n]; exact h1) (by rw [S.hsc]; exact v1) v2 v3) po_W po_W) ⟨_, h3, h.run o fun u Hs2 H2 g2 h2 => h2.run (o.mono g2) fun w Hs3 H3 g3 p3 => ?_⟩
  have g := g2.trans g3
  exact rSW_of sl_list ⟨p, vs, rfl, .of (g.hh _ _ e2), fun b hb => q _ _ _ _ (g.trans (Go.new g.sub hb)) p3 (.lst upd_same ((cutL_rp (r.mono g.ss)).mono (same_upd (g.sub.free hb))))⟩
end
end DL

/-! DL26: x[a:b] = y for an own list x, b beyond its end too. -/
namespace DL
open PySem PySem.Spec PyProof.Rows L2
theorem bounds_cut {a c n : Nat} (hac : a ≤ c) (ha : a ≤ n) : sliceBounds (some (a : Int)) (some (c : Int)) none n = ((a : Int), ((min c n : Nat) : Int), 1) := by
  simp only [sliceBounds, Option.getD_none]
  have h1 : ¬ ((a : Int) < 0) := by omega
  have h2 : ¬ ((c : Int) < 0) := by omega
  simp only [h1, h2, if_false, show (1 : Int) > 0 by decide, if_true]
  congr 1
  · omega
  · congr 1; omega
section
variable {prog : Program} {w : World} {A : Around} {E : Value → Shared → Prop} {s : Shared}
/-- the same walk as for a slice that ends within the list, its end cut at the length -/
theorem setItem_cut {l b sl : Addr} {items new : Array Value} {n n2 : Nat} {vl vu : Value} {a c : Nat} {Q : Unit → Shared → Prop}
    (e : s.heap.get? l = some { cls := .type "list", data := .seq items n }) (e2 : s.heap.get? b = some { cls := .type "list", data := .seq new n2 }) (hne : l ≠ b)
    (hs : s.heap.IsSliceOf sl vl vu .none) (pl : IsPart vl (some (a : Int))) (pu : IsPart vu (some (c : Int))) (hac : a ≤ c) (ha : a ≤ items.size)
    (hsz : items.size + new.size ≤ sizeLine) (h : Q () { s with heap := s.heap.update l (Obj.mapSeq fun xs => xs.extract 0 a ++ new ++ xs.extract (min c items.size) xs.size) }) :
    wpAny (model prog w) A (setItem (.ref l) (.ref sl) (.ref b)) Q E s := by
  have hl : s.heap.IsList l items := PySem.IsL.isList e
  have hb : s.heap.IsList b new := PySem.IsL.isList e2
  obtain ⟨os, hos, hcs, hds⟩ := id hs
  have hTs : s.TypeIs (.ref sl) "slice" := ⟨os, hos, hcs⟩
  have hstep : ¬ ((rawPart none == rawInt 0) = true) := Bool.false_ne_true
  have hsame : Builtin.List.listSameRef (.ref l) (.ref b) = false := by
    unfold Builtin.List.listSameRef
    exact beq_eq_false_iff_ne.mpr hne
  have hmax : (max (a : Int) ((min c items.size : Nat) : Int)).toNat = min c items.size := by omega
  have hz' : ((fun xs : Array Value => xs.extract 0 a ++ new ++ xs.extract (min c items.size) xs.size) items).size ≤ sizeLine + 1 := by
    simp only [Array.size_append, Array.size_extract]
    omega
  unfold setItem
  try with_reducible refine wpAny_holding ?_
  first | refine wpAny_bind (wpAny_pure ?_) | skip
  refine wpAny_bind (wpAny_sequenceKey hl.typeIs (by decide) ?_)
  refine wpAny_bind (wpAny_callSpecial?_slot (name := Str.ofString "__setitem__") hl.typeIs slot_list_setitem
    (wpAny_call_entry slot_list_setitem hl.typeIs entry_list_setitem ?_ (args_list_setitem _ _ _)))
  show wpAny _ _ (Builtin.List.listSubscript? (.ref sl) >>= _) _ _ s
  refine wpAny_bind ?_
  unfold Builtin.List.listSubscript?
  refine wpAny_bind (wpAny_specialOf hTs slice_no_index ?_)
  simp only [Option.isNone_none, if_true]
  refine wpAny_pure ?_
  show wpAny _ _ (typeOf (.ref sl) >>= _) _ _ s
  refine wpAny_bind (wpAny_typeOf hTs ?_)
  first
    | rw [if_neg (by decide)]
    | refine PySem.W.KFB.if_not (by decide) ?_
  rw [listSliceParts_eq]
  refine wpAny_bind (wpAny_bind (wpAny_field hos hds (x := .none) rfl (wpAny_bind (wpAny_listPart .none ?_))))
  rw [if_neg hstep]
  refine wpAny_bind (wpAny_field hos hds (x := vl) rfl (wpAny_bind (wpAny_listPart pl ?_)))
  refine wpAny_bind (wpAny_field hos hds (x := vu) rfl (wpAny_bind (wpAny_listPart pu (wpAny_pure ?_))))
  first
    | simp only [hsame, Bool.false_eq_true, if_false]
    | refine PySem.W.KFB.if_not hsame ?_
    | (dsimp only
       rw [if_neg (by rw [hsame]; exact Bool.false_ne_true)])
  refine wpAny_bind (m := Builtin.List.listAllItems (.ref b) "must assign iterable to extended slice") ?_
  unfold Builtin.List.listAllItems
  refine wpAny_bind (wpAny_typeOf hb.typeIs ?_)
  first
    | refine PySem.W.KFB.if_so (by decide) ?_
    | rw [if_pos (by decide)]
    | simp only [beq_self_eq_true, Bool.true_or, if_true]
  unfold Builtin.List.listItems
  refine wpAny_bind (wpAny_seqItems e2 rfl (wpAny_pure ?_))
  refine wpAny_bind (wpAny_bind (wpAny_seqItems e rfl (wpAny_pure ?_)))
  refine wpAny_bind (wpAny_of_eq ((sliceIndices_raw (some (a : Int)) (some (c : Int)) none items.size (by simp)).trans (congrArg (pure : Int × Int × Int → Sem (Int × Int × Int)) (bounds_cut hac ha))) ?_)
  show wpAny _ _ (if ((1 : Int) == 1) = true then _ else _) _ _ s
  rw [if_pos (by decide)]
  refine wpAny_bind (wpAny_rule ?_)
  first
    | simp only [notLongL hsz, Bool.false_eq_true, if_false]
    | refine PySem.W.KFB.if_not (notLongL hsz) ?_
  first | refine wpAny_bind (wpAny_pure ?_) | skip
  show wpAny _ _ (updateSeq l (fun xs => xs.extract 0 ((a : Int)).toNat ++ new ++ xs.extract (max (a : Int) ((min c items.size : Nat) : Int)).toNat xs.size) >>= _) _ _ s
  rw [hmax, Int.toNat_natCast]
  refine wpAny_bind (wpAny_updateSeq (hz := Nat.le_trans (Nat.le_add_right _ _) hsz) (_hz' := hz') e rfl ?_)
  refine wpAny_bind (wpAny_letGo ?_)
  first
    | exact wpAny_bind (wpAny_pure (wpAny_pure ⟨.none, rfl, wpAny_pure h⟩))
    | exact wpAny_pure ⟨.none, rfl, wpAny_pure h⟩
end
section
variable {X : Cx} {o lo hi : Expr} {to : TE} {tl th : TO} {pos p2 : Pos}
theorem set_cut {pins : List (Addr × Obj)} {s : Shared} {σ : L2.St} {H : Hp} {l b sl : Addr} {xs ys : List V} {a c : Nat} {vl vu : Value} {Q : Unit → Shared → Prop} (I : Inv X pins σ H s)
    (hH : H l = some (.lst xs)) (hB : H b = some (.lst ys)) (hne : l ≠ b) (hs : s.heap.IsSliceOf sl vl vu .none) (pl : IsPart vl (some (a : Int))) (pu : IsPart vu (some (c : Int))) (hac : a ≤ c) (ha : a ≤ xs.length)
    (hz : xs.length + ys.length ≤ sizeLine) (h : ∀ s', Inv X pins σ (upd H l (.lst (xs.take a ++ ys ++ xs.drop c))) s' → Q () s') :
    wpAny (model X.prog X.w) X.A (setItem (.ref l) (.ref sl) (.ref b)) Q X.xe s := by
  obtain ⟨z, its, n, r, hl, e⟩ := I.lstM hH
  obtain ⟨z2, its2, n2, r2, hl2, e2⟩ := I.lstM hB
  refine setItem_cut (a := a) (c := c) e e2 hne hs pl pu hac (by rw [List.size_toArray]; omega) (by rw [List.size_toArray, List.size_toArray]; omega) (h _ ?_)
  refine I.lset (its' := its.take a ++ its2 ++ its.drop c) (t' := s.toks) hH e ?_ (Vals.append (Vals.append (r.take _) r2) (r.drop _)) ?_
  · have := splice_eq its its2 a (min c its.length)
    have e3 : its.drop (min c its.length) = its.drop c := by
      by_cases q : c ≤ its.length
      · rw [Nat.min_eq_left q]
      · rw [Nat.min_eq_right (by omega), List.drop_of_length_le (Nat.le_refl _), List.drop_of_length_le (by omega)]
    rw [e3] at this
    rw [List.size_toArray] at *
    exact this
  · rw [List.length_append, List.length_append, List.length_take, List.length_drop]
    omega
def gCut (to : TE) (tl th : TO) : TG := fun v σ H Q => to σ H fun o H1 => tl σ H1 fun l H2 => th σ H2 fun u H3 => ∃ (p b : Addr) (xs ys : List V) (a c : Nat), o = .ref p ∧ v = .ref b ∧ l = some (a : Int) ∧ u = some (c : Int) ∧ H3 p = some (.lst xs) ∧ H3 b = some (.lst ys) ∧ p ≠ b ∧ a ≤ c ∧ a ≤ xs.length ∧
  xs.length + ys.length ≤ sizeLine ∧ Q σ (upd H3 p (.lst (xs.take a ++ ys ++ xs.drop c)))
theorem pg_cut (ho : PE X o to) (hl : PO X (some lo) tl) (hu : PO X (some hi) th)
    (ha : ∀ v, assign (.Subscript o (.Slice (some lo) (some hi) none p2) pos) X.env v = (do
      let ov ← holding [v] (eval o X.env)
      let iv ← holding [v, ov] (eval (.Slice (some lo) (some hi) none p2) X.env)
      standAt pos
      holding [v, ov, iv] (setItem ov iv v)
      release [iv, v, ov] []) := by intro _; rfl) : PG X (.Subscript o (.Slice (some lo) (some hi) none p2) pos) (gCut to tl th) := by
  refine ⟨fun pins s σ H v u Q I r h => ?_⟩
  rw [ha]
  refine wpAny_bind (wpAny_holding (thn (ho.run pins s σ H _ I h) fun ov s1 ⟨x, H1, I1, r1, q1⟩ => ?_))
  refine wpAny_bind (wpAny_holding ?_)
  refine wpAny_Slice (thn (hl.run pins s1 σ H1 _ I1 q1) fun vl s2 ⟨l, H2, I2, pl, q2⟩ => thn (hu.run pins s2 σ H2 _ I2 q2) fun vu s3 ⟨w, H3, I3, pu, q3⟩ => ?_)
  rw [evalPart_none]
  refine wpAny_pure ?_
  have I4 : Inv X pins σ H3 { s3 with heap := s3.heap.push { cls := .type "slice", data := .fields #[vl, vu, .none] } } := I3.kept (t' := s3.toks) fun b ob q => Heap.get?_push_of_some _ q
  obtain ⟨p, b, xs, ys, a, c, rfl, rfl, rfl, rfl, hp, hb, hne, hac, hal, hz, hq⟩ := q3
  cases r
  cases r1
  refine wpAny_bind (wpAny_standAt (wpAny_bind (wpAny_holding ?_)))
  exact set_cut I4 hp hb hne (Heap.IsSliceOf.new ..) pl pu hac hal hz fun s5 I5 => wpAny_release ⟨σ, _, I5, hq⟩
end
section
variable {M : Md} {X : Cx} {k : Nat} {N : List Str} {sc cs : Scope} {δ δ' : Sg} {m : Bool} {Φ Ψ : Da → Prop} {x y : Str} {pos p2 p3 p4 apos : Pos} {a b e o c tg it lo hi : Expr} {es : List Expr} {nx bk ct : Sg → Prop} {rt : Da → Prop}
/-- x[lo:hi] = e, x an own list, e another -/
theorem ds_sliceL (S : Sc M X k N sc cs) {l : List Da} (hg : Gt N δ x (.ol l)) (hv : visB sc x = true) (hz : l.length < 1000000) (h : DE X e δ fun d => ∃ l2 : List Da, d = .lst l2 ∧ l2.length < 1000000 ∧ DP X (some lo) δ fun u => DP X (some hi) δ fun w => ∃ a c : Nat, u = some (a : Int) ∧ w = some (c : Int) ∧ a ≤ c ∧ a ≤ l.length ∧ ∃ δ', Ss N δ x (some (.ol (l.take a ++ l2 ++ l.drop c))) δ' ∧ nx δ')
    (hs : swapsWithSole [.Subscript (.Name x p2) (.Slice (some lo) (some hi) none p4) p3] e pos.line X.env = pure false := by rfl) (hw : swappedStores [.Subscript (.Name x p2) (.Slice (some lo) (some hi) none p4) p3] e X.env = pure none := by rfl)
    (h1 : (assignEach [.Subscript (.Name x p2) (.Slice (some lo) (some hi) none p4) p3] X.env).map (·.2) = [assign (.Subscript (.Name x p2) (.Slice (some lo) (some hi) none p4) p3) X.env] := by rfl)
    (ha : ∀ v, assign (.Subscript (.Name x p2) (.Slice (some lo) (some hi) none p4) p3) X.env v = (do
      let ov ← holding [v] (eval (.Name x p2) X.env)
      let iv ← holding [v, ov] (eval (.Slice (some lo) (some hi) none p4) X.env)
      standAt p3
      holding [v, ov, iv] (setItem ov iv v)
      release [iv, v, ov] []) := by intro _; rfl) : DS X (.Assign [.Subscript (.Name x p2) (.Slice (some lo) (some hi) none p4) p3] e pos) δ nx rt bk ct := .mk fun Bs B Hs H σ o D f => by
  obtain ⟨i, hi, h2⟩ := hg.at
  obtain ⟨v, h3, p, vs, rfl, e1, e2, r⟩ := o.slot i _ h2
  obtain ⟨v1, v2, v3⟩ := visB_ok hv
  refine WS.of (ps_asg pe_W (pg_cut (pe_var (i := i) (by rw [S.n]; exact hi) (by rw [S.hsc]; exact v1) v2 v3) po_W po_W ha) hs hw h1)
    (h Bs B Hs H σ o _ fun d w Hs1 H1 g1 ⟨l2, ed, hz2, h5⟩ r1 => ⟨_, h3, h5.run (o.mono g1) fun u Hs2 H2 g2 h6 => h6.run ((o.mono g1).mono g2) fun z Hs3 H3 g3 ⟨n1, n2, eu, ez, hle, hl1, δ', hd, pd⟩ => ?_⟩)
  subst ed eu ez
  obtain ⟨b2, ws, rfl, hb2, rb⟩ := r1.lst_inv
  obtain ⟨j2, h7, rfl⟩ := hd.at
  obtain rfl : i = j2 := nodup_ix S.nd hi h7
  have g := (g1.trans g2).trans g3
  have o1 := o.mono g
  have e3 := g.no p (by rw [e2]; exact fun z => nomatch z) e1
  have hb3 := (g2.trans g3).ss _ _ hb2
  have hl := r.len
  have hl2 := rb.len
  have hsz : sizeLine = 16777216 := sizeLine_eq
  have hr := r.mono g.ss
  refine ⟨p, b2, vs, ws, n1, n2, rfl, rfl, rfl, rfl, g.hh _ _ e2, g.sub _ _ hb3, fun z => ?_, hle, by omega, by omega, f.nx _ _ Hs3 _ (o1.chg (s1 := .ol (l.take n1 ++ l2 ++ l.drop n2)) h2 rfl rfl h3 e3 ⟨p, _, rfl, e3, upd_same, ((hr.takes _).app (rb.mono (g2.trans g3).ss)).app (hr.drops _)⟩) g.ss pd⟩
  rw [z, hb3] at e3
  cases e3
/-- len(x), x an own list -/
theorem de_lenO (S : Sc M X k N sc cs) {l : List Da} {f : Str} (hm : M.mg f = none) (hb : bootBuiltins f = some (.builtin "len")) (hgl : glB sc f = true) (hg : Gt N δ x (.ol l)) (hv : visB sc x = true) (h : Φ (.int l.length))
    (he : starEach [.Name x p3] X.env = (false, eval (.Name x p3) X.env) :: starEach [] X.env := by rfl) (hpl : (backTo pos (starEach [] X.env)).any (·.1) = false := by rfl) : DM X m (.Call (.Name f p2) [.Name x p3] [] pos) δ Φ := DM.of <| .mk fun Bs B Hs H σ o Q q => by
  obtain ⟨i, h1, h2⟩ := hg.at
  obtain ⟨v, h3, p, vs, rfl, e1, e2, r⟩ := o.slot i _ h2
  obtain ⟨v1, v2, v3⟩ := visB_ok hv
  obtain ⟨g1, g2, g3⟩ := glB_ok hgl
  refine WE.of (pe_callB rCW_ok (by show X.env.scope.names.lookup f = _; rw [S.hsc]; exact g1) (by rw [S.hmg]; exact hm) hb (pa_cons (pe_var (i := i) (by rw [S.n]; exact h1) (by rw [S.hsc]; exact v1) v2 v3) pa_nil he) g3 g2 he hpl) ⟨_, h3, ?_⟩
  exact rCW_of call_len_seq ⟨p, vs, rfl, .inl (.of e2), q _ _ Hs H (Go.refl o.sub) h (by rw [r.len]; exact .a _)⟩
end
end DL

/-! DL27: list(text); an own list made by + ; x not in (.., ..). -/
namespace DL
open PySem PySem.Spec PyProof.Rows L2
section
variable {X : Cx}
theorem signs_vals : ∀ {cs : List Nat} {us : List Value}, us.length = cs.length → (∀ (j : Nat) (v : Value), us[j]? = some v → ∃ (c : Nat) (u : Tok), cs[j]? = some c ∧ v = .str ⟨#[c]⟩ u) → Vals (cs.map fun c => V.str ⟨#[c]⟩) us
  | [], [], _, _ => .nil
  | c :: cs, u :: us, hl, h => by
    obtain ⟨d, t, e1, e2⟩ := h 0 u rfl
    have e1' : c = d := Option.some.inj e1
    subst e1' e2
    exact .cons ⟨t, rfl⟩ (signs_vals (by simpa using hl) fun j v e => h (j + 1) v e)
theorem call_listS (hcalm : X.calm = true) : CallR X (.type "list") (fun xs H Q => ∃ x : Str, xs = [.str x] ∧ x.length ≤ sizeLine ∧ ∀ p, H p = none → Q (.ref p) (upd H p (.lst (x.cps.toList.map fun c => V.str ⟨#[c]⟩)))) := by
  intro pins s σ H xs us Q I r q
  obtain ⟨x, ex, hx, q⟩ := q
  subst ex
  obtain ⟨u, eu, rx⟩ := vals1 r
  subst eu
  obtain ⟨t, rfl⟩ := rx
  refine call_list_str (I.ok.hd hcalm) x t (hn := hx) fun h' tk acc c' hk hS hacc => ?_
  have hv : Vals (x.cps.toList.map fun c => V.str ⟨#[c]⟩) acc.toList := signs_vals (by rw [Array.length_toList, Array.length_toList]; exact hacc.1) fun j v e => by
    obtain ⟨c, u, h1, h2⟩ := hacc.2 j v (by rw [← Array.getElem?_toList]; exact e)
    exact ⟨c, u, by rw [Array.getElem?_toList]; exact h1, h2⟩
  refine ⟨.ref s.heap.objs.size, upd H s.heap.objs.size (.lst (x.cps.toList.map fun c => V.str ⟨#[c]⟩)), I.laid (t' := tk) hk (Nat.le_refl _)
    (show ObjOk X.prog X.w _ _ _ (.lst (x.cps.toList.map fun c => V.str ⟨#[c]⟩)) from ⟨by rw [List.length_map, Array.length_toList]; exact hx, acc.toList, c', hv, by rw [Array.toArray_toList]; exact hS⟩), rfl, q _ (I.hok.fresh (Nat.le_refl _))⟩
theorem rp_signs {K : PySem.W.Frag} {H : Hp} : ∀ cs : List Nat, RpAll K H (cs.map fun c => Da.str ⟨#[c]⟩) (cs.map fun c => V.str ⟨#[c]⟩)
  | [] => .nil
  | c :: cs => .cons (.a _) (rp_signs cs)
end
section
variable {M : Md} {X : Cx} {k : Nat} {N : List Str} {sc cs : Scope} {δ δ' : Sg} {m : Bool} {Φ Ψ : Da → Prop} {x y : Str} {pos p2 p3 p4 apos : Pos} {a b e o c tg it lo hi : Expr} {es : List Expr} {nx bk ct : Sg → Prop} {rt : Da → Prop}
theorem bw_listS (S : Sc M X k N sc cs) {x : Str} (hx : x.length ≤ sizeLine) (h : Φ (.lst (x.cps.toList.map fun c => Da.str ⟨#[c]⟩))) : BW X (.type "list") [.str x] Φ := fun Hs H vs e rr Q q => by
  cases rr with
  | cons r t =>
    cases t
    cases r.atom
    exact rCW_of (call_listS S.calm) ⟨x, rfl, hx, fun b hb => q _ _ _ _ (Go.new e hb) h (.lst upd_same (rp_signs _))⟩
/-- x = a + b, lists: an own list -/
theorem ds_ownAdd (S : Sc M X k N sc cs) (h : DE X a δ fun x' => DE X b δ fun y' => ∃ l r : List Da, x' = .lst l ∧ y' = .lst r ∧ l.length + r.length ≤ sizeLine ∧ ∃ δ', Ss N δ x (some (.ol (l ++ r))) δ' ∧ nx δ') (hl : locB cs x = true) (hN : N.contains x = true)
    (hs : swapsWith (.BinOp a .Add b p3) (some (.Name x p2)) pos.line X.env = pure false := by rfl) : DS X (.Assign [.Name x p2] (.BinOp a .Add b p3) pos) δ nx rt bk ct := .mk fun Bs B Hs H σ o D fi => by
  obtain ⟨i, hi⟩ : ∃ i : Nat, N[i]? = some x := List.mem_iff_getElem?.mp (by simpa using hN)
  refine WS.of (ps_set (i := i) (by rw [S.n]; exact S.nd) (by rw [S.n]; exact hi) (S.fn x hl).1 (pe_op rW_ok pe_W pe_W) hs (S.fn x hl).2) ?_
  refine h Bs B Hs H σ o _ fun x' v Hs1 H1 g1 hb r1 => hb Bs B Hs1 H1 σ (o.mono g1) _ fun y' w Hs2 H2 g2 ⟨l, r, ex, ey, hz, δ', h1, h2⟩ r2 => ?_
  subst ex ey
  obtain ⟨j, h3, rfl⟩ := h1.at
  obtain rfl : i = j := nodup_ix S.nd hi h3
  have g := g1.trans g2
  have o1 := o.mono g
  obtain ⟨p1, vs, rfl, e1, a1⟩ := (Rp.mono g2.ss r1).lst_inv
  obtain ⟨p2, ws, rfl, e2, a2⟩ := r2.lst_inv
  refine rW_of op_cat ⟨p1, p2, vs, ws, rfl, rfl, g.sub _ _ e1, g2.sub _ _ e2, by rw [← a1.len, ← a2.len]; exact hz, fun p hp => ?_⟩
  exact fi.nx _ _ Hs2 _ (o1.setO i (s0 := .ol (l ++ r)) hp ⟨p, vs ++ ws, rfl, g.sub.free hp, upd_same, a1.app a2⟩) g.ss h2
/-- d not in (t1, t2, ..), of any depth up to 60 -/
theorem cmp_notIn {n k : Nat} {d : Da} {l : List Da} {Φ : Bool → Prop} (h1 : Shp n d) (h2 : Shp k (.tup l)) (h : Φ (!(l.map Da.py).any fun z => PyData.eqv z d.py)) (hn : n ≤ 60 := by decide) (hk : k ≤ 60 := by decide) (hd : PyData.depthAll (l.map Da.py) ≤ 60 := by decide) : CmpW Φ .NotIn d (.tup l) :=
  .notInDT h1.pl h2.pl (h1.shaped hn) (h2.shaped hk) hd h
end
end DL

/-! DL28: a < b < c < d as a test. -/
namespace DL
open PySem PySem.Spec PyProof.Rows L2
section
variable {X : Cx} {a b c d : Expr} {ta tb tc td : TE} {pos : Pos}
def tChain3 (r r' r'' : R2) (ta tb tc td : TE) : TT := fun σ H Q => ta σ H fun x H1 => tb σ H1 fun y H2 => r x y H2 fun z H3 => ∃ k, z = .bl k ∧
  (if k = true then tc σ H3 fun y' H4 => r' y y' H4 fun z' H5 => ∃ k', z' = .bl k' ∧ (if k' = true then td σ H5 fun y'' H6 => r'' y' y'' H6 fun z'' H7 => ∃ k'', z'' = .bl k'' ∧ Q k'' H7 else Q false H5) else Q false H3)
theorem pt_chain3 {op op' op'' : CmpOp} {r r' r'' : R2} (ho : OpR X (compareOp op) r) (ho' : OpR X (compareOp op') r') (ho'' : OpR X (compareOp op'') r'') (ha : PE X a ta) (hb : PE X b tb) (hc : PE X c tc) (hd : PE X d td)
    (hm : lastMarks [op, op', op''] [b, c, d] = false := by with_unfolding_all rfl) : PT X (.Compare a [op, op', op''] [b, c, d] pos) (tChain3 r r' r'' ta tb tc td) := by
  refine ⟨fun pins s σ H Q I h => ?_⟩
  refine isTrue_chain (thn (ha.run pins s σ H _ I h) fun v s1 ⟨x, H1, I1, r1, q1⟩ => test_link (thn (hb.run pins s1 σ H1 _ I1 q1) fun u s2 ⟨y, H2, I2, r2, q2⟩ =>
    thn (ho pins s2 σ H2 x y v u _ I2 r1 r2 q2) fun d s3 ⟨z, H3, I3, r3, k, e, q3⟩ => ?_)) hm
  subst e
  cases r3
  refine wpAny_truthy_bool ?_
  cases k with
  | false => exact ite_ff ⟨H3, I3, q3⟩
  | true =>
    refine ite_tt (test_link (thn (hc.run pins s3 σ H3 _ I3 q3) fun u' s4 ⟨y', H4, I4, r4, q4⟩ => thn (ho' pins s4 σ H4 y y' u u' _ I4 r2 r4 q4) fun d' s5 ⟨z', H5, I5, r5, k', e', q5⟩ => ?_))
    subst e'
    cases r5
    refine wpAny_truthy_bool ?_
    cases k' with
    | false => exact ite_ff ⟨H5, I5, q5⟩
    | true =>
      refine ite_tt (test_last (thn (hd.run pins s5 σ H5 _ I5 q5) fun u'' s6 ⟨y'', H6, I6, r6, q6⟩ => thn (ho'' pins s6 σ H6 y' y'' u' u'' _ I6 r4 r6 q6) fun d'' s7 ⟨z'', H7, I7, r7, k'', e'', q7⟩ => ?_))
      subst e''
      cases r7
      exact wpAny_truthy_bool ⟨H7, I7, q7⟩
end
section
variable {M : Md} {X : Cx} {k : Nat} {N : List Str} {sc cs : Scope} {δ : Sg} {pos : Pos} {a b c d : Expr}
theorem dt_chain3 (S : Sc M X k N sc cs) {Φ : Bool → Prop} {op op' op'' : CmpOp} (h : DV X a δ fun x => DV X b δ fun y => CmpW (fun z => (z = true → DV X c δ fun y' => CmpW (fun z' => (z' = true → DV X d δ fun y'' => CmpW Φ op'' y' y'') ∧ (z' = false → Φ false)) op' y y') ∧ (z = false → Φ false)) op x y)
    (hm : lastMarks [op, op', op''] [b, c, d] = false := by with_unfolding_all rfl) : DT X (.Compare a [op, op', op''] [b, c, d] pos) δ Φ := .mk fun Bs B Hs H σ o Q q =>
  WT.of (pt_chain3 rW_ok rW_ok rW_ok pe_W pe_W pe_W pe_W hm) (h Bs B Hs H σ o _ fun x v Hs1 H1 g1 hb r1 => hb Bs B Hs1 H1 σ (o.mono g1) _ fun y w Hs2 H2 g2 hc r2 =>
    cmp_run S hc (Rp.mono g2.hh r1) r2 fun z p => ⟨z, rfl, by
      cases z with
      | true => exact iteT (p.1 rfl Bs B Hs2 H2 σ ((o.mono g1).mono g2) _ fun y' w' Hs3 H3 g3 hd r3 => cmp_run S hd (Rp.mono g3.hh r2) r3 fun z' p' => ⟨z', rfl, by
          cases z' with
          | true => exact iteT (p'.1 rfl Bs B Hs3 H3 σ (((o.mono g1).mono g2).mono g3) _ fun y'' w'' Hs4 H4 g4 he r4 => cmp_run S he (Rp.mono g4.hh r3) r4 fun c p => ⟨c, rfl, q c Hs4 H4 (((g1.trans g2).trans g3).trans g4) p⟩)
          | false => exact iteF (q false Hs3 H3 ((g1.trans g2).trans g3) (p'.2 rfl))⟩)
      | false => exact iteF (q false Hs2 H2 (g1.trans g2) (p.2 rfl))⟩)
end
end DL

/-! DL29: sorted pairs that may stand twice, in a list or in a tuple: some order of them. -/
namespace DL
open PySem PySem.Spec PyProof.Rows L2
section
variable {prog : Program} {w : World} {A : Around} {E : Value → Shared → Prop} {s : Shared}
theorem coll_tup {t : Addr} {us : List Value} {R : List Value → Shared → Prop} (ht : IsTup s.heap t us.toArray) (hn : us.length ≤ sizeLine)
    (hR : R us { s with heap := (s.heap.push (seqObj "list" #[] 0)).update s.heap.objs.size (Obj.mapSeq (· ++ us.toArray)) }) : wpAny (model prog w) A (collect (.ref t)) R E s := by
  obtain ⟨ob, h1, h2, n, h3⟩ := id ht
  unfold collect
  refine wpAny_bind (wpAny_runValue (codeAny_builtin entry_proto_collect' (?_ : wpAny _ _ (do again (.builtin "list.__iadd__" ⟨[← newList [], .ref t], []⟩)) _ _ s)))
  refine wpAny_bind (wpAny_newList (wpAny_pure ⟨Code.quiet_builtin _ (by decide +kernel), codeAny_builtin entry_list_iadd' (?_ : wpAny _ _ (Builtin.List.listExtendWith (.ref s.heap.objs.size) (.ref t) (.ref s.heap.objs.size)) _ _ { s with heap := s.heap.push (seqObj "list" #[] 0) })⟩))
  unfold Builtin.List.listExtendWith
  have h4 : (s.heap.push (seqObj "list" #[] 0)).get? t = some ob := Heap.get?_push_of_some _ h1
  refine wpAny_bind (wpAny_typeOf (T := "tuple") ⟨ob, h4, h2⟩ ?_)
  have hy : (Value.type "tuple" == Value.type "tuple") = true := by rfl
  rw [if_pos (by rw [hy]; simp)]
  refine wpAny_bind (listItems_at h4 h3 (wpAny_bind (listItems_at (xs := #[]) (n := 0) (Heap.get?_push_size _ rfl) rfl ?_)))
  rw [if_neg (by simp)]
  refine wpAny_bind (listUpdate_at (xs := #[]) (n := 0) (Heap.get?_push_size _ rfl) rfl ?_ (Nat.zero_le _) (by show (#[] ++ us.toArray).size ≤ sizeLine + 1; simp only [Array.size_append, List.size_toArray, List.length_nil]; omega))
  refine wpAny_pure ?_
  show wpAny (model prog w) A (do
      let ob ← load s.heap.objs.size
      match ob.data with
      | .seq xs _ => pure xs.toList
      | _ => unsupported "internal:collect") R E { s with heap := (s.heap.push (seqObj "list" #[] 0)).update s.heap.objs.size (Obj.mapSeq (· ++ us.toArray)) }
  refine wpAny_bind (wpAny_load (get?_update_seq (Heap.get?_push_size _ rfl) _) ?_)
  show wpAny _ _ (pure ((#[] : Array Value) ++ us.toArray).toList) R E _
  rw [show ((#[] : Array Value) ++ us.toArray).toList = us by simp]
  exact wpAny_pure hR
theorem sortd_tup {t : Addr} {us : List Value} {lt : Value → Value → Bool} {R : Value → Shared → Prop} (O : SrtO.Swo lt) (ht : IsTup s.heap t us.toArray) (hn : us.length ≤ sizeLine)
    (hS : 2 ≤ us.length → ∀ (g : Heap) (a : Addr), g.get? a = some (seqObj "list" us.toArray 0) → (∀ b o, s.heap.get? b = some o → b ≠ a ∧ g.get? b = some o) → SrtO.SortableO prog w A.in1.in1 { s with heap := g } a us lt)
    (hR : ∀ out : List Value, SrtO.Srtd lt out → SrtO.Stb lt out us → R (.ref (s.heap.objs.size + 1)) { s with heap := sortedAll s.heap us out.toArray }) :
    wpAny (model prog w) A (call (.builtin "sorted") [.ref t]) R E s := by
  refine Calls.call_function_entry kind_sorted plain_sorted entry_sorted (args_sorted1 _) ?_
  unfold Builtin.«sorted»
  refine wpAny_bind (m := checkCount "sorted" 1 1 _) (wpAny_pure (wpAny_bind (coll_tup ht hn (wpAny_bind (wpAny_newList ?_ hn)))))
  have e1 : ((s.heap.push (seqObj "list" #[] 0)).update s.heap.objs.size (Obj.mapSeq (· ++ us.toArray))).objs.size = s.heap.objs.size + 1 := by rw [Heap.size_update, size_push']
  have e2 : (((s.heap.push (seqObj "list" #[] 0)).update s.heap.objs.size (Obj.mapSeq (· ++ us.toArray))).push (seqObj "list" us.toArray 0)).get? (s.heap.objs.size + 1) = some (seqObj "list" us.toArray 0) := e1 ▸ Heap.get?_push_size _ rfl
  have e3 : ∀ b o, s.heap.get? b = some o → b ≠ s.heap.objs.size + 1 ∧ (((s.heap.push (seqObj "list" #[] 0)).update s.heap.objs.size (Obj.mapSeq (· ++ us.toArray))).push (seqObj "list" us.toArray 0)).get? b = some o := fun b o z => by
    have e4 : b < s.heap.objs.size := Heap.lt_size z
    exact ⟨Nat.ne_of_lt (Nat.lt_succ_of_lt e4), Heap.get?_push_of_some _ (by rw [Heap.get?_update_ne _ _ _ _ (Nat.ne_of_lt e4)]; exact Heap.get?_push_of_some _ z)⟩
  show wpAny _ _ _ _ _ { s with heap := ((s.heap.push (seqObj "list" #[] 0)).update s.heap.objs.size (Obj.mapSeq (· ++ us.toArray))).push (seqObj "list" us.toArray 0) }
  rw [e1]
  exact wpAny_bind (wpAny_holding (wpAny_call_entry slot_list_sort ⟨_, e2, rfl⟩ entry_list_sort (SrtO.list_sort_ord O e2 hn (fun h2 => hS h2 _ _ e2 e3) fun out hs hb => ⟨_, rfl, wpAny_pure ⟨_, rfl, hR out hs hb⟩⟩) (args_list_sort _)))
end
section
variable {X : Cx}
theorem cr_sortedT : CallR X (.builtin "sorted") (fun vs H Q => ∃ (a : Addr) (xs : List V) (k : V → Int × Int), vs = [V.ref a] ∧ SqT X.K H a xs ∧ (∀ x ∈ xs, ∃ t, x = V.ref t ∧ H t = some (.tup [.int (k x).1, .int (k x).2])) ∧ ∀ ys p, ys.Perm xs → H p = none → Q (.ref p) (upd H p (.lst ys))) := by
  intro pins s σ H vs us Q I r h
  obtain ⟨a, xs, k, rfl, hs, hx, q⟩ := h
  obtain ⟨its, rv, hl, hz⟩ := I.tuple hs
  obtain ⟨u, rfl, ru⟩ := vals1 r
  obtain rfl : u = Value.ref a := ru
  obtain ⟨e1, e2⟩ := refs_back rv fun x m => (hx x m).imp fun t z => z.1
  have hp : ∀ v ∈ its, Srt.IsPair s.heap v (k (backV v)).1 (k (backV v)).2 := fun v hv => by
    obtain ⟨t, rfl⟩ := e2 v hv
    obtain ⟨t', e, ht⟩ := hx (V.ref t) (by rw [e1]; exact List.mem_map.mpr ⟨_, hv, rfl⟩)
    cases e
    obtain ⟨_, its2, r2, o, ho, hc, n, hd⟩ := I.hok _ _ ht
    obtain ⟨u1, u2, rfl, ri, rj⟩ := vals2 r2
    obtain ⟨t1, rfl⟩ := ri
    obtain ⟨t2, rfl⟩ := rj
    exact ⟨t, o, t1, t2, n, rfl, ho, hc, hd⟩
  refine sortd_tup (SrtO.swo_lex fun u => k (backV u)) hl (by rw [← rv.length]; exact hz) (fun h2 g b hb kk => ?_) fun out hs1 hs2 => ?_
  · refine SrtO.pairs_sortableO (s := { s with heap := g }) (by omega) (fun v hm => (hp v hm).keeps fun b o e _ => (kk b o e).2) fun o e c => ?_
    have e' : some o = some (seqObj "list" its.toArray 0) := e.symm.trans hb
    cases e'
    exact absurd (Value.type.inj c) (by decide)
  · obtain ⟨n, hn⟩ := sortedAll_at s.heap its out.toArray
    have h3 : ∀ u ∈ out, ∃ a, u = Value.ref a := fun u hu => e2 u (hs2.perm.mem_iff.mp hu)
    have hq : (out.map backV).Perm xs := by rw [e1]; exact hs2.perm.map backV
    have kp : ∀ b o, s.heap.get? b = some o → (sortedAll s.heap its out.toArray).get? b = some o := fun b o e => sortedAll_old e
    have hd : s.heap.objs.size ≤ s.heap.objs.size + 1 := Nat.le_succ _
    refine ⟨.ref (s.heap.objs.size + 1), upd H (s.heap.objs.size + 1) (.lst (out.map backV)), I.laid (t' := s.toks) kp hd ⟨?_, out, n, vals_back h3, hn⟩, rfl, q _ _ hq (I.hok.fresh hd)⟩
    rw [hq.length_eq]
    exact hz
end
section
variable {M : Md} {X : Cx} {Φ : Da → Prop}
theorem bw_sortAny {ps : List (Int × Int)} (h : ∀ qs : List (Int × Int), qs.Perm ps → Φ (.lst (qs.map encI))) : BW X (.builtin "sorted") [.lst (ps.map encI)] Φ := fun Hs H vs e rr Q q => by
  cases rr with
  | cons r t =>
    cases t
    obtain ⟨a, ws, rfl, ha, ra⟩ := r.lst_inv
    obtain ⟨h1, h2⟩ := prs_rp ra
    refine rCW_of cr_sortedPO ⟨a, ws, prOf Hs, rfl, .of (e _ _ ha), fun x hx => ?_, fun ys p _ st hH => ?_⟩
    · obtain ⟨t, e2, e3⟩ := (prOf_rp (h2 x hx)).2
      exact ⟨t, e2, e _ _ e3⟩
    · have hq : RpAll X.K Hs ((ys.map (prOf Hs)).map encI) ys := prs_all fun v hv => h2 v (st.perm.mem_iff.mp hv)
      exact q _ _ _ _ (Go.new e hH) (h _ (by rw [← h1]; exact st.perm.map _)) (.lst upd_same (hq.mono (same_upd (e.free hH))))
theorem bw_sortT {ps : List (Int × Int)} (h : ∀ qs : List (Int × Int), qs.Perm ps → Φ (.lst (qs.map encI))) : BW X (.builtin "sorted") [.tup (ps.map encI)] Φ := fun Hs H vs e rr Q q => by
  cases rr with
  | cons r t =>
    cases t
    obtain ⟨a, ws, rfl, ha, ra⟩ := r.tup_inv
    obtain ⟨h1, h2⟩ := prs_rp ra
    refine rCW_of cr_sortedT ⟨a, ws, prOf Hs, rfl, .of (e _ _ ha), fun x hx => ?_, fun ys p st hH => ?_⟩
    · obtain ⟨t, e2, e3⟩ := (prOf_rp (h2 x hx)).2
      exact ⟨t, e2, e _ _ e3⟩
    · have hq : RpAll X.K Hs ((ys.map (prOf Hs)).map encI) ys := prs_all fun v hv => h2 v (st.mem_iff.mp hv)
      exact q _ _ _ _ (Go.new e hH) (h _ (by rw [← h1]; exact st.map _)) (.lst upd_same (hq.mono (same_upd (e.free hH))))
end
/-! ### x or y, as a value -/
theorem all_empty {K : PySem.W.Frag} {H : Hp} {ds : List Da} {vs : List V} (h : RpAll K H ds vs) : vs.isEmpty = ds.isEmpty := by
  cases h <;> rfl
theorem tru_tup {K : PySem.W.Frag} {H : Hp} {l : List Da} {v : V} (r : Rp K H (.tup l) v) : TruV K v H (!l.isEmpty) := by
  obtain ⟨p, vs, rfl, h, ra⟩ := r.tup_inv
  exact .inr (.inl ⟨vs, .of h, by rw [all_empty ra]⟩)
theorem tru_lst {K : PySem.W.Frag} {H : Hp} {l : List Da} {v : V} (r : Rp K H (.lst l) v) : TruV K v H (!l.isEmpty) := by
  obtain ⟨p, vs, rfl, h, ra⟩ := r.lst_inv
  exact .inl ⟨vs, .of h, by rw [all_empty ra]⟩
inductive OrW (Φ : Da → Prop) (P : Prop) : Da → Prop
  | non : P → OrW Φ P .non
  | tup {l : List Da} : (l = [] → P) → (l ≠ [] → Φ (.tup l)) → OrW Φ P (.tup l)
  | lst {l : List Da} : (l = [] → P) → (l ≠ [] → Φ (.lst l)) → OrW Φ P (.lst l)
section
variable {M : Md} {X : Cx} {k : Nat} {m : Bool} {δ : Sg} {Φ : Da → Prop} {a b : Expr} {es : List Expr} {pos : Pos}
theorem de_orV (h : DM X m a δ (OrW Φ (DM X m (.BoolOp .Or (b :: es) pos) δ Φ))) : DM X m (.BoolOp .Or (a :: b :: es) pos) δ Φ := .mk fun Bs B Hs H σ o Q q =>
  WE.of (pe_orT pe_W pe_W) (h Bs B Hs H σ o _ fun d v Hs' H' g p r => by
    have rf := r.full g.sub
    have go : DM X m (.BoolOp .Or (b :: es) pos) δ Φ → WE X (.BoolOp .Or (b :: es) pos) σ H' Q := fun hp => hp Bs B Hs' H' σ (o.mono g) Q fun d v Hs2 H2 g2 p r => q d v Hs2 H2 (g.trans g2) p r
    cases p with
    | non hp =>
      cases rf.atom
      exact ⟨false, rfl, iteF (go hp)⟩
    | @tup l h1 h2 =>
      refine ⟨!l.isEmpty, tru_tup rf, ?_⟩
      cases l with
      | nil => exact iteF (go (h1 rfl))
      | cons x l => exact iteT (q _ _ Hs' H' g (h2 (by simp)) r)
    | @lst l h1 h2 =>
      refine ⟨!l.isEmpty, tru_lst rf, ?_⟩
      cases l with
      | nil => exact iteF (go (h1 rfl))
      | cons x l => exact iteT (q _ _ Hs' H' g (h2 (by simp)) r))
end
end DL

/-! DL30: sorted whole numbers. -/
namespace DL
open PySem PySem.Spec PyProof.Rows L2
theorem srtI_uniq : ∀ {a b : List Int}, a.Perm b → a.Pairwise (· ≤ ·) → b.Pairwise (· ≤ ·) → a = b
  | [], b, h, _, _ => (List.Perm.eq_nil h.symm).symm
  | x :: a, [], h, _, _ => absurd h.length_eq (by simp)
  | x :: a, y :: b, h, ha, hb => by
    obtain ⟨a1, a2⟩ := List.pairwise_cons.mp ha
    obtain ⟨b1, b2⟩ := List.pairwise_cons.mp hb
    have e : x = y := by
      have h1 : x ≤ y := by
        rcases List.mem_cons.mp (h.mem_iff.mpr (List.mem_cons_self (a := y) (l := b))) with e | hy
        · omega
        · exact a1 y hy
      have h2 : y ≤ x := by
        rcases List.mem_cons.mp (h.mem_iff.mp (List.mem_cons_self (a := x) (l := a))) with e | hx
        · omega
        · exact b1 x hx
      omega
    subst e
    rw [srtI_uniq h.cons_inv a2 b2]
section
variable {X : Cx} {Φ : Da → Prop}
theorem bw_sortI {ns ms : List Int} (hp : ms.Perm ns) (hs : ms.Pairwise (· ≤ ·)) (h : Φ (.lst (ms.map Da.int))) : BW X (.builtin "sorted") [.lst (ns.map Da.int)] Φ := fun Hs H vs e rr Q q => by
  cases rr with
  | cons r t =>
    cases t
    obtain ⟨a, ws, rfl, ha, ra⟩ := r.lst_inv
    have e1 : ns.map Da.int = (ns.map V.int).map Da.a := by rw [List.map_map]; rfl
    rw [e1] at ra
    rw [ra.atoms] at ha
    refine rCW_of cr_sortedI ⟨a, ns, rfl, .of (e _ _ ha), fun zs p pm pw hH => ?_⟩
    have ez : zs = ms := srtI_uniq (pm.trans hp.symm) pw hs
    subst ez
    have e2 : zs.map Da.int = (zs.map V.int).map Da.a := by rw [List.map_map]; rfl
    exact q _ _ _ _ (Go.new e hH) h (.lst upd_same (by rw [e2]; exact RpAll.ofAtoms _))
end
theorem count_one (l : List Nat) (c : Nat) : Txt.count ⟨l.toArray⟩ ⟨#[c]⟩ = (l.count c : Nat) := by
  rw [count_cnt]
  show PyProof.Rows.cnt c l = _
  induction l with
  | nil => rfl
  | cons x l ih =>
    rw [PyProof.Rows.cnt_cons, ih, List.count_cons]
    by_cases h : x = c
    · rw [if_pos h, if_pos (by simpa using h)]
      omega
    · rw [if_neg h, if_neg (by simpa using h)]
      omega
end DL

/-! DL31: objects: their fields read, their methods that change nothing. -/
namespace DL
open PySem PySem.Spec PyProof.Rows L2
/-- the class of such objects -/
structure HallK (K : PySem.W.Frag) (C : Addr) : Prop where
  cls : Cls K C
  n1 : NoAttr K C "ground"
  n2 : NoAttr K C "now"
  n3 : NoAttr K C "former"
theorem ObjAt.up {K : PySem.W.Frag} {Hs B H : Hp} {s : HSt} (h : ObjAt K Hs B s) (e : Same B H) : ObjAt K Hs H s := by
  obtain ⟨dx, v1, v2, vs, h1, h2, h3⟩ := h
  exact ⟨dx, v1, v2, vs, e _ _ h1, e _ _ h2, h3⟩
/-- the promise of a method that changes nothing -/
def SpQ (K : PySem.W.Frag) {α : Type} (ms : List Bool) (args : α → List Da) (st : α → HSt) (pre : α → Prop) (post : α → Da → Prop) : Sp := fun vs H Q _ =>
  ∃ (z : α) (Hs : Hp) (ws : List V), vs = .ref (st z).a :: ws ∧ Same Hs H ∧ ObjAt K Hs H (st z) ∧ RpL K Hs H ms (args z) ws ∧ pre z ∧ ∀ d v Hs' H', Go Hs H Hs' H' → post z d → Rp K Hs' d v → Q v H'
structure CalQ {α : Type} (M : Md) (k : Nat) (C : Addr) (x : Str) (ms : List Bool) (args : α → List Da) (st : α → HSt) (pre : α → Prop) (post : α → Da → Prop) : Prop where
  ex : ∃ f fd ps, FnOk M.P M.w M.K M.mg M.base CX0 k f fd ps (SpQ M.K ms args st pre post) ∧ Meth M.K C x f ∧ Binds M.K fd ps []
theorem CalQ.mono {α : Type} {M : Md} {k j : Nat} {C : Addr} {x : Str} {ms : List Bool} {args : α → List Da} {st : α → HSt} {pre : α → Prop} {post : α → Da → Prop} (c : CalQ M k C x ms args st pre post) (h : k ≤ j) : CalQ M j C x ms args st pre post := by
  obtain ⟨f, fd, ps, F, h1, h2⟩ := c.ex
  exact ⟨f, fd, ps, F.mono h, h1, h2⟩
section
variable {M : Md} {X : Cx} {k : Nat} {N : List Str} {sc cs : Scope} {δ δ' : Sg} {m : Bool} {Φ Ψ : Da → Prop} {x y f : Str} {pos p2 p3 apos : Pos} {e a b o tg it : Expr} {es : List Expr} {s : HSt} {C : Addr}
/-- e.ground, e.now -/
theorem de_fldG (S : Sc M X k N sc cs) (hs : Gt N δ x (.hb s)) (hv : visB sc x = true) (hk : HallK M.K s.C) (h : Φ s.d1) (hb : attributeBase (.Name x p2) "ground" X.env (eval (.Name x p2) X.env) = eval (.Name x p2) X.env := by rfl) :
    DM X m (.Attribute (.Name x p2) "ground" pos) δ Φ := DM.of <| .mk fun Bs B Hs H σ o Q q => by
  obtain ⟨i, h1, h2⟩ := hs.at
  obtain ⟨v, h3, rfl, dx, v1, v2, vs, b1, b2, n1, n2, r1, r2, r3⟩ := o.slot i _ h2
  obtain ⟨w1, w2, w3⟩ := visB_ok hv
  exact WE.of (pe_fld (pe_var (i := i) (by rw [S.n]; exact h1) (by rw [S.hsc]; exact w1) w2 w3) hb) ⟨_, h3, s.a, s.C, dx, _, v1, rfl, o.go.hh _ _ b1, by rw [S.hK]; exact hk.cls, by rw [S.hK]; exact hk.n1, rfl, q _ v1 Hs H (Go.refl o.sub) h r1⟩
theorem de_fldN (S : Sc M X k N sc cs) (hs : Gt N δ x (.hb s)) (hv : visB sc x = true) (hk : HallK M.K s.C) (h : Φ s.d2) (hb : attributeBase (.Name x p2) "now" X.env (eval (.Name x p2) X.env) = eval (.Name x p2) X.env := by rfl) :
    DM X m (.Attribute (.Name x p2) "now" pos) δ Φ := DM.of <| .mk fun Bs B Hs H σ o Q q => by
  obtain ⟨i, h1, h2⟩ := hs.at
  obtain ⟨v, h3, rfl, dx, v1, v2, vs, b1, b2, n1, n2, r1, r2, r3⟩ := o.slot i _ h2
  obtain ⟨w1, w2, w3⟩ := visB_ok hv
  exact WE.of (pe_fld (pe_var (i := i) (by rw [S.n]; exact h1) (by rw [S.hsc]; exact w1) w2 w3) hb) ⟨_, h3, s.a, s.C, dx, _, v2, rfl, o.go.hh _ _ b1, by rw [S.hK]; exact hk.cls, by rw [S.hK]; exact hk.n2, rfl, q _ v2 Hs H (Go.refl o.sub) h r2⟩
def offH (x : Str) : Bool := !(x == "ground") && !(x == "now") && !(x == "former")
theorem off_lookup {v1 v2 v3 : V} (h : offH x = true) : List.lookup x [(("ground" : Str), v1), ("now", v2), ("former", v3)] = none := by
  unfold offH at h
  cases e1 : x == ("ground" : Str) with
  | true => rw [e1] at h; cases h
  | false =>
    cases e2 : x == ("now" : Str) with
    | true => rw [e1, e2] at h; cases h
    | false =>
      cases e3 : x == ("former" : Str) with
      | true => rw [e1, e2, e3] at h; cases h
      | false => simp only [List.lookup, e1, e2, e3]
/-- x.m(..), nothing changed -/
theorem de_methQ {α : Type} {ms : List Bool} {args : α → List Da} {st : α → HSt} {pre : α → Prop} {post : α → Da → Prop} {pl : Sem Bool} (S : Sc M X k N sc cs) (hk : HallK M.K s.C) (c : CalQ M k s.C f ms args st pre post) (hs : Gt N δ x (.hb s)) (hv : visB sc x = true) (hf : offH f = true)
    (h : DA X ms (e :: es) δ fun ds => ∃ z, ds = args z ∧ st z = s ∧ pre z ∧ ∀ d, post z d → Φ d)
    (he : starEach (e :: es) X.env = (false, eval e X.env) :: starEach es X.env := by rfl) (hpl : (backTo pos (starEach es X.env)).any (·.1) = false := by rfl)
    (ht : eval (.Call (.Attribute (.Name x p2) f apos) (e :: es) [] pos) X.env = (do
      let ov ← eval (.Name x p2) X.env
      standAt apos.atName
      let (f, first) ← holding [ov] (getMethod ov f pl)
      callWith pos f first (backTo pos (starEach (e :: es) X.env)) (backToKw pos (keywordEach [] X.env))) := by rfl) :
    DM X m (.Call (.Attribute (.Name x p2) f apos) (e :: es) [] pos) δ Φ := DM.of <| .mk fun Bs B Hs H σ o Q q => by
  obtain ⟨g, fd, ps, F, h1, h2⟩ := c.ex
  obtain ⟨i, j1, j2⟩ := hs.at
  obtain ⟨v, h3, rfl, hO⟩ := o.slot i _ j2
  obtain ⟨w1, w2, w3⟩ := visB_ok hv
  have F' : FnOk X.prog X.w X.K X.mg X.base CX0 k g fd ps (SpQ X.K ms args st pre post) := by rw [S.hP, S.hw, S.hK, S.hmg, S.hb]; exact F
  obtain ⟨dx, v1, v2, vs, b1, _⟩ := id hO
  refine WE.of (pe_meth (pl := pl) (dvs := []) (ds := []) (E := E0) (pe_var (i := i) (by rw [S.n]; exact j1) (by rw [S.hsc]; exact w1) w2 w3) (by rw [S.hK]; exact hk.cls) (by rw [S.hK]; exact h1) F' S.room (by rw [S.hK]; exact h2) .nil pass0 pa_W he hpl ht) ⟨_, h3, s.a, dx, _, rfl, o.go.hh _ _ b1, off_lookup hf, ?_⟩
  refine h Bs B Hs H σ o _ fun ds ws Hs1 H1 gg ⟨z, ea, ez, pa, kk⟩ r => ?_
  subst ea ez
  rw [List.append_nil]
  have o1 := o.mono gg
  obtain ⟨_, h4, _, hO1⟩ := o1.slot i _ j2
  exact ⟨z, Hs1, ws, rfl, gg.sub, hO1.up o1.go.hh, r, pa, fun d v Hs' H' g p rd => q d v Hs' H' (gg.trans g) (kk d p) rd⟩
theorem de_methQ0 {α : Type} {args : α → List Da} {st : α → HSt} {pre : α → Prop} {post : α → Da → Prop} {pl : Sem Bool} (S : Sc M X k N sc cs) (hk : HallK M.K s.C) (c : CalQ M k s.C f [] args st pre post) (hs : Gt N δ x (.hb s)) (hv : visB sc x = true) (hf : offH f = true)
    (h : ∃ z, [] = args z ∧ st z = s ∧ pre z ∧ ∀ d, post z d → Φ d)
    (ht : eval (.Call (.Attribute (.Name x p2) f apos) [] [] pos) X.env = (do
      let ov ← eval (.Name x p2) X.env
      standAt apos.atName
      let (f, first) ← holding [ov] (getMethod ov f pl)
      callWith pos f first (backTo pos (starEach [] X.env)) (backToKw pos (keywordEach [] X.env))) := by rfl) :
    DM X m (.Call (.Attribute (.Name x p2) f apos) [] [] pos) δ Φ := DM.of <| .mk fun Bs B Hs H σ o Q q => by
  obtain ⟨g, fd, ps, F, h1, h2⟩ := c.ex
  obtain ⟨i, j1, j2⟩ := hs.at
  obtain ⟨v, h3, rfl, hO⟩ := o.slot i _ j2
  obtain ⟨w1, w2, w3⟩ := visB_ok hv
  have F' : FnOk X.prog X.w X.K X.mg X.base CX0 k g fd ps (SpQ X.K [] args st pre post) := by rw [S.hP, S.hw, S.hK, S.hmg, S.hb]; exact F
  obtain ⟨dx, v1, v2, vs, b1, _⟩ := id hO
  obtain ⟨z, ea, rfl, pa, kk⟩ := h
  refine WE.of (pe_meth0 (pl := pl) (dvs := []) (ds := []) (E := E0) (pe_var (i := i) (by rw [S.n]; exact j1) (by rw [S.hsc]; exact w1) w2 w3) (by rw [S.hK]; exact hk.cls) (by rw [S.hK]; exact h1) F' S.room (by rw [S.hK]; exact h2) .nil pass0 ht) ⟨_, h3, (st z).a, dx, _, rfl, o.go.hh _ _ b1, off_lookup hf, ?_⟩
  exact ⟨z, Hs, [], rfl, o.sub, hO.up o.go.hh, by rw [← ea]; exact .nil, pa, fun d v Hs' H' g p rd => q d v Hs' H' g (kk d p) rd⟩
/-! ### the start of a method -/
theorem Ok.consH {K : PySem.W.Frag} {Hs H : Hp} {σ : L2.St} (o : Ok K Hs H Hs H σ δ) (h : ObjAt K Hs H s) : Ok K Hs H Hs H (some (.ref s.a) :: σ) (some (.hb s) :: δ) := by
  refine ⟨o.go, fun i t e => ?_, by simp [o.len], fun i t p e w e2 => ?_, fun i j t u p e1 e2 w1 w2 e3 e4 => ?_⟩
  · cases i with
    | zero =>
      have e : SD.hb s = t := by simpa using e
      subst e
      exact ⟨_, rfl, rfl, h⟩
    | succ i => exact o.slot i t (by simpa using e)
  · cases i with
    | zero =>
      have e : SD.hb s = t := by simpa using e
      subst e
      cases w
    | succ i => exact o.fr i t p (by simpa using e) w (by simpa using e2)
  · cases i with
    | zero =>
      have e1 : SD.hb s = t := by simpa using e1
      subst e1
      cases w1
    | succ i =>
      cases j with
      | zero =>
        have e2 : SD.hb s = u := by simpa using e2
        subst e2
        cases w2
      | succ j => exact congrArg (· + 1) (o.ap i j t u p (by simpa using e1) (by simpa using e2) w1 w2 (by simpa using e3) (by simpa using e4))
/-- THE RULE for a method that changes nothing -/
theorem fnq_ok {α : Type} {qual : Str} {st0 : Stmt} {fa : Addr} {fd : FuncData} {n0 : Str} {N' ps : List Str} {ms : List Bool} {args : α → List Da} {st : α → HSt} {pre : α → Prop} {post : α → Da → Prop} (F : Fun M.K x qual st0 fa fd) (S : FnScope (n0 :: N') (n0 :: ps) (defScope st0)) (hl : ms.length = ps.length)
    (hbody : ∀ X, Sc M X k (n0 :: N') (defScope st0) (defScope st0) → ∀ z, pre z → DB X (defBody st0) (some (.hb (st z)) :: startS N'.length ms (args z)) (fun _ => post z .non) (post z) (fun _ => False) (fun _ => False)) :
    FnOk M.P M.w M.K M.mg M.base CX0 (k + 1) fa fd (n0 :: ps) (SpQ M.K ms args st pre post) := by
  refine F.ok S (fun vs H Q E h => ?_) (fun cdv A outer s H vs Q E hr h => ?_)
  · obtain ⟨z, Hs, ws, rfl, _, _, r, _⟩ := h
    rw [List.length_cons, List.length_cons, r.lens, hl]
  · obtain ⟨z, Hs, ws, rfl, e, hO, r, hp, q⟩ := h
    have hN : ms.length ≤ N'.length := by
      have := congrArg List.length S.pre
      rw [List.length_take, List.length_cons, List.length_cons] at this
      omega
    have o1 := (ok_start (N := N') e r hN).consH hO
    have es : (some (V.ref (st z).a) :: L2.start N' ws) = L2.start (n0 :: N') (.ref (st z).a :: ws) := by
      unfold L2.start
      simp
    rw [es] at o1
    refine ⟨_, pb_W, hbody _ (sc_of S hr) z hp Hs H Hs H _ o1 _ ⟨fun δ σ Hs' H' o _ h => q .non .non Hs' H' o.go h (.a _), fun d v Hs' H' g _ h r => q d v Hs' H' g h r, fun _ _ _ _ _ _ h => h.elim, fun _ _ _ _ _ _ h => h.elim⟩⟩
end
end DL

/-! DL32: objects changed: a judgment of its own for blocks, whose base may change at the object. -/
namespace DL
open PySem PySem.Spec PyProof.Rows L2
/-- from one heap to another, an object changed -/
structure BaseM (s : HSt) (Hs H Hs' H' : Hp) : Prop where
  ss : Same Hs Hs'
  hh : ∀ q o, q ≠ s.a → q ≠ s.la → H q = some o → H' q = some o
  no : ∀ q, H q ≠ none → Hs q = none → Hs' q = none
  ka : H s.a ≠ none → H' s.a ≠ none
  kl : H s.la ≠ none → H' s.la ≠ none
structure GoM (s : HSt) (Hs H Hs' H' : Hp) : Prop where
  bm : BaseM s Hs H Hs' H'
  sub : Same Hs' H'
section
variable {s t : HSt} {Hs H Hs1 H1 Hs2 H2 : Hp}
theorem BaseM.refl : BaseM s Hs H Hs H := ⟨Same.refl _, fun _ _ _ _ e => e, fun _ _ h => h, fun h => h, fun h => h⟩
theorem BaseM.of (g : Go Hs H Hs1 H1) : BaseM s Hs H Hs1 H1 := ⟨g.ss, fun q o _ _ e => g.hh q o e, g.no, fun h => same_ne g.hh h, fun h => same_ne g.hh h⟩
theorem BaseM.keeps (g : BaseM s Hs H Hs1 H1) {q : Addr} (h : H q ≠ none) : H1 q ≠ none := by
  by_cases e1 : q = s.a
  · rw [e1] at h ⊢; exact g.ka h
  by_cases e2 : q = s.la
  · rw [e2] at h ⊢; exact g.kl h
  cases e : H q with
  | none => exact absurd e h
  | some o => rw [g.hh q o e1 e2 e]; exact fun z => nomatch z
theorem BaseM.trans (a : BaseM s Hs H Hs1 H1) (b : BaseM s Hs1 H1 Hs2 H2) : BaseM s Hs H Hs2 H2 :=
  ⟨a.ss.trans b.ss, fun q o h1 h2 e => b.hh q o h1 h2 (a.hh q o h1 h2 e), fun q h1 h2 => b.no q (a.keeps h1) (a.no q h1 h2), fun h => b.ka (a.ka h), fun h => b.kl (a.kl h)⟩
theorem BaseM.addr (g : BaseM s Hs H Hs1 H1) (e1 : t.a = s.a) (e2 : t.la = s.la) : BaseM t Hs H Hs1 H1 :=
  ⟨g.ss, fun q o h1 h2 e => g.hh q o (by rw [← e1]; exact h1) (by rw [← e2]; exact h2) e, g.no, by rw [e1]; exact g.ka, by rw [e2]; exact g.kl⟩
theorem BaseM.go (b : BaseM s Hs H Hs1 H1) (g : Go Hs1 H1 Hs2 H2) : GoM s Hs H Hs2 H2 := ⟨b.trans (.of g), g.sub⟩
end
/-- no borrowed thing, no object but at i -/
def plainM (i : Nat) (δ : Sg) : Bool := (δ.set i none).all fun s => match s with
  | some (.b _) => false
  | some (.hb _) => false
  | _ => true
theorem Ok.mutH {K : PySem.W.Frag} {Bs B Hs H Hs' H' : Hp} {σ : L2.St} {δ : Sg} {i : Nat} {s s' : HSt} (o : Ok K Bs B Hs H σ δ) (hi : δ[i]? = some (some (.hb s))) (pl : plainM i δ = true) (gm : GoM s Hs H Hs' H') (hO : ObjAt K Hs' H' s') (e1 : s'.a = s.a) (e2 : s'.la = s.la) :
    ∃ B', Ok K Bs B' Hs' H' σ (δ.set i (some (.hb s'))) ∧ BaseM s Bs B Bs B' := by
  obtain ⟨v, hv, rfl, dx, v1, v2, vs, b1, b2, n1, n2, r1, r2, r3⟩ := o.slot i _ hi
  obtain ⟨dx', u1, u2, us, c1, c2, m1, m2, q1, q2, q3⟩ := hO
  rw [e1] at c1 m1
  rw [e2] at c2 m2
  have hal : s.a ≠ s.la := fun z => by rw [z, b2] at b1; cases b1
  obtain ⟨oA, hoA⟩ : ∃ oA, oA = HO.ins s'.C dx' [("ground", u1), ("now", u2), ("former", .ref s'.la)] := ⟨_, rfl⟩
  rw [← hoA] at c1
  obtain ⟨B', hB'⟩ : ∃ B', B' = upd (upd B s.a oA) s.la (.lst us) := ⟨_, rfl⟩
  have old : ∀ {q : Addr}, q ≠ s.a → q ≠ s.la → B' q = B q := fun {q} h1 h2 => by rw [hB', upd_ne h2, upd_ne h1]
  have atA : B' s.a = some oA := by rw [hB', upd_ne hal, upd_same]
  have atL : B' s.la = some (.lst us) := by rw [hB', upd_same]
  have bne : ∀ {p : Addr}, B p = none → p ≠ s.a ∧ p ≠ s.la := fun {p} e => ⟨fun z => (by rw [z, b1] at e; cases e), fun z => (by rw [z, b2] at e; cases e)⟩
  have keyp : ∀ {j : Nat} {t : SD}, j ≠ i → δ[j]? = some (some t) → (∀ d, t ≠ .b d) ∧ (∀ u, t ≠ .hb u) := fun {j t} hj e => by
    have hm : (some t) ∈ δ.set i none := List.mem_of_getElem? (i := j) (by rw [List.getElem?_set_ne (Ne.symm hj)]; exact e)
    have := List.all_eq_true.mp pl _ hm
    exact ⟨fun d z => (by subst z; cases this), fun u z => (by subst z; cases this)⟩
  refine ⟨B', ⟨⟨o.go.ss.trans gm.bm.ss, fun q x e => ?_, gm.sub, fun q h1 h2 => ?_⟩, fun j t e => ?_, by simp [o.len], fun j t p e w e3 => ?_, fun j k t u p f1 f2 w1 w2 f3 f4 => ?_⟩, ⟨Same.refl _, fun q x h1 h2 e => (by rw [old h1 h2]; exact e), fun _ _ h => h, fun _ => (by rw [atA]; exact fun z => nomatch z), fun _ => (by rw [atL]; exact fun z => nomatch z)⟩⟩
  · by_cases h2 : q = s.la
    · subst h2
      rw [atL] at e
      cases e
      exact c2
    by_cases h1 : q = s.a
    · subst h1
      rw [atA] at e
      cases e
      exact c1
    rw [old h1 h2] at e
    exact gm.bm.hh q x h1 h2 (o.go.hh q x e)
  · by_cases h3 : q = s.la
    · rw [h3]; exact m2
    by_cases h4 : q = s.a
    · rw [h4]; exact m1
    have hb : B q ≠ none := fun z => h1 (by rw [old h4 h3]; exact z)
    exact gm.bm.no q (same_ne o.go.hh hb) (o.go.no q hb h2)
  · rcases set_some_key e with ⟨hj, e⟩ | ⟨rfl, rfl, hl⟩
    · obtain ⟨v, h1, h2⟩ := o.slot j t e
      refine ⟨v, h1, ?_⟩
      obtain ⟨k1, k2⟩ := keyp hj e
      cases t with
      | d d => exact Rp.mono gm.bm.ss h2
      | b d => exact absurd rfl (k1 d)
      | hb u => exact absurd rfl (k2 u)
      | ol l =>
        obtain ⟨p, ws, rfl, g1, g2, g3⟩ := h2
        obtain ⟨x1, x2⟩ := bne (o.fr j _ p e rfl h1)
        exact ⟨p, ws, rfl, gm.bm.no p (by rw [g2]; exact fun z => nomatch z) g1, gm.bm.hh p _ x1 x2 g2, g3.mono gm.bm.ss⟩
      | ok l =>
        obtain ⟨p, rfl, g1, g2⟩ := h2
        obtain ⟨x1, x2⟩ := bne (o.fr j _ p e rfl h1)
        exact ⟨p, rfl, gm.bm.no p (by rw [g2]; exact fun z => nomatch z) g1, gm.bm.hh p _ x1 x2 g2⟩
      | ot l =>
        obtain ⟨p, rfl, g1, g2⟩ := h2
        obtain ⟨x1, x2⟩ := bne (o.fr j _ p e rfl h1)
        exact ⟨p, rfl, gm.bm.no p (by rw [g2]; exact fun z => nomatch z) g1, gm.bm.hh p _ x1 x2 g2⟩
    · refine ⟨_, hv, by rw [e1], dx', u1, u2, us, by rw [e1, atA, hoA], by rw [e2]; exact atL, by rw [e1]; exact m1, by rw [e2]; exact m2, q1, q2, q3⟩
  · rcases set_some_key e with ⟨hj, e⟩ | ⟨rfl, rfl, hl⟩
    · have hb := o.fr j t p e w e3
      obtain ⟨x1, x2⟩ := bne hb
      rw [old x1 x2]
      exact hb
    · cases w
  · rcases set_some_key f1 with ⟨hj, g1⟩ | ⟨rfl, rfl, hl⟩
    · rcases set_some_key f2 with ⟨hk, g2⟩ | ⟨rfl, rfl, hl⟩
      · exact o.ap j k t u p g1 g2 w1 w2 f3 f4
      · cases w2
    · cases w1
/-! ### blocks that may change the object -/
structure FitsM (K : PySem.W.Frag) (s0 : HSt) (Es E Hs0 : Hp) (nx : Sg → Prop) (rt : Sg → Da → Prop) (D : Ends) : Prop where
  nx : ∀ δ σ Bs B Hs H, Ok K Bs B Hs H σ δ → BaseM s0 Es E Bs B → Same Hs0 Hs → nx δ → D.nx σ H
  rt : ∀ d v δ σ Bs B Hs H, Ok K Bs B Hs H σ δ → BaseM s0 Es E Bs B → Same Hs0 Hs → rt δ d → Rp K Hs d v → D.rt v H
theorem FitsM.frm {K : PySem.W.Frag} {s0 : HSt} {Es E Hs0 Hs1 : Hp} {nx : Sg → Prop} {rt : Sg → Da → Prop} {D : Ends} (f : FitsM K s0 Es E Hs0 nx rt D) (e : Same Hs0 Hs1) : FitsM K s0 Es E Hs1 nx rt D :=
  ⟨fun δ σ Bs B Hs H o b s h => f.nx δ σ Bs B Hs H o b (e.trans s) h, fun d v δ σ Bs B Hs H o b s h r => f.rt d v δ σ Bs B Hs H o b (e.trans s) h r⟩
structure DBm (X : Cx) (s0 : HSt) (sts : List Stmt) (δ : Sg) (nx : Sg → Prop) (rt : Sg → Da → Prop) : Prop where
  run : ∀ Es E Bs B Hs H σ, Ok X.K Bs B Hs H σ δ → BaseM s0 Es E Bs B → ∀ D, FitsM X.K s0 Es E Hs nx rt D → WB X sts D σ H
section
variable {M : Md} {X : Cx} {k : Nat} {N : List Str} {sc cs : Scope} {δ δ' : Sg} {m : Bool} {Φ Ψ : Da → Prop} {x y f : Str} {pos p2 p3 apos : Pos} {e a b o tg it : Expr} {es : List Expr} {s s0 : HSt} {C : Addr} {st : Stmt} {sts : List Stmt} {nx : Sg → Prop} {rt : Sg → Da → Prop}
theorem dbm_nil (h : nx δ) : DBm X s0 [] δ nx rt := ⟨fun Es E Bs B Hs H σ o b D f => WB.of pss_nil (f.nx δ σ Bs B Hs H o b (Same.refl _) h)⟩
theorem dbm_ds (h : DS X st δ (fun δ' => DBm X s0 sts δ' nx rt) (fun _ => False) (fun _ => False) (fun _ => False)) : DBm X s0 (st :: sts) δ nx rt := ⟨fun Es E Bs B Hs H σ o b D f =>
  WB.of (pss_cons ps_W pb_W) (h Bs B Hs H σ o { D with nx := WB X sts D } ⟨fun δ' σ' Hs' H' o' s h' => h'.run Es E Bs B Hs' H' σ' o' b D (f.frm s), fun _ _ _ _ _ _ h _ => h.elim, fun _ _ _ _ _ _ h => h.elim, fun _ _ _ _ _ _ h => h.elim⟩)⟩
theorem dbm_ret (h : DE X e δ (rt δ)) : DBm X s0 (.Return (some e) pos :: sts) δ nx rt := ⟨fun Es E Bs B Hs H σ o b D f =>
  WB.of (pss_cons ps_W pb_W) (WS.of (ps_ret pe_W) (h Bs B Hs H σ o _ fun d v Hs' H' g p r => f.rt d v δ σ Bs B Hs' H' (o.mono g) b g.ss p r))⟩
theorem dbm_if {c : Expr} {s1 s2 : List Stmt} (h : DT X c δ fun z => (z = true → DBm X s0 s1 δ (fun δ' => DBm X s0 sts δ' nx rt) rt) ∧ (z = false → DBm X s0 s2 δ (fun δ' => DBm X s0 sts δ' nx rt) rt)) : DBm X s0 (.If c s1 s2 pos :: sts) δ nx rt := ⟨fun Es E Bs B Hs H σ o b D f => by
  refine WB.of (pss_cons ps_W pb_W) (WS.of (ps_if pt_W pb_W pb_W) (h Bs B Hs H σ o _ fun z Hs' H' g p => ?_))
  have fm : FitsM X.K s0 Es E Hs' (fun δ' => DBm X s0 sts δ' nx rt) rt { D with nx := WB X sts D } := ⟨fun δ1 σ1 Bs1 B1 Hs1 H1 o1 b1 s1 h1 => h1.run Es E Bs1 B1 Hs1 H1 σ1 o1 b1 D (f.frm (g.ss.trans s1)), (f.frm g.ss).rt⟩
  cases z with
  | true => exact iteT ((p.1 rfl).run Es E Bs B Hs' H' σ (o.mono g) b _ fm)
  | false => exact iteF ((p.2 rfl).run Es E Bs B Hs' H' σ (o.mono g) b _ fm)⟩
end
end DL

/-! DL33: methods that change their object; fields stored; loops around such. -/
namespace DL
open PySem PySem.Spec PyProof.Rows L2
/-- the promise of a method that may change its object -/
def SpM (K : PySem.W.Frag) {α : Type} (ms : List Bool) (args : α → List Da) (st : α → HSt) (pre : α → Prop) (post : α → Da → HSt → Prop) : Sp := fun vs H Q _ =>
  ∃ (z : α) (Hs : Hp) (ws : List V), vs = .ref (st z).a :: ws ∧ Same Hs H ∧ ObjAt K Hs H (st z) ∧ RpL K Hs H ms (args z) ws ∧ pre z ∧ ∀ d v s' Hs' H', GoM (st z) Hs H Hs' H' → ObjAt K Hs' H' s' → s'.a = (st z).a → s'.la = (st z).la → s'.C = (st z).C → post z d s' → Rp K Hs' d v → Q v H'
structure CalM {α : Type} (M : Md) (k : Nat) (C : Addr) (x : Str) (ms : List Bool) (args : α → List Da) (st : α → HSt) (pre : α → Prop) (post : α → Da → HSt → Prop) : Prop where
  ex : ∃ f fd ps, FnOk M.P M.w M.K M.mg M.base CX0 k f fd ps (SpM M.K ms args st pre post) ∧ Meth M.K C x f ∧ Binds M.K fd ps []
theorem CalM.mono {α : Type} {M : Md} {k j : Nat} {C : Addr} {x : Str} {ms : List Bool} {args : α → List Da} {st : α → HSt} {pre : α → Prop} {post : α → Da → HSt → Prop} (c : CalM M k C x ms args st pre post) (h : k ≤ j) : CalM M j C x ms args st pre post := by
  obtain ⟨f, fd, ps, F, h1, h2⟩ := c.ex
  exact ⟨f, fd, ps, F.mono h, h1, h2⟩
section
variable {M : Md} {X : Cx} {k : Nat} {N : List Str} {sc cs : Scope} {δ δ' : Sg} {m : Bool} {Φ Ψ : Da → Prop} {x y f : Str} {pos p2 p3 p4 apos : Pos} {e a b o tg it : Expr} {es : List Expr} {s s0 : HSt} {C : Addr} {st1 : Stmt} {sts : List Stmt} {nx : Sg → Prop} {rt : Sg → Da → Prop}
theorem ss_set {δ1 : Sg} {i : Nat} {t : SD} (nd : N.Nodup) (h1 : N[i]? = some x) (h : Ss N δ x (some t) δ1) : δ1 = δ.set i (some t) := by
  obtain ⟨j, h2, rfl⟩ := h.at
  obtain rfl : i = j := nodup_ix nd h1 h2
  rfl
/-- x.m(..), as a statement -/
theorem dbm_meth {α : Type} {ms : List Bool} {args : α → List Da} {st : α → HSt} {pre : α → Prop} {post : α → Da → HSt → Prop} {pl : Sem Bool} (S : Sc M X k N sc cs) (hk : HallK M.K s.C) (c : CalM M k s.C f ms args st pre post) (hs : Gt N δ x (.hb s)) (hv : visB sc x = true) (hf : offH f = true)
    (h0 : s.a = s0.a) (h0' : s.la = s0.la)
    (h : DA X ms (e :: es) δ fun ds => ∃ z, ds = args z ∧ st z = s ∧ pre z ∧ ∀ d s', s'.a = s.a → s'.la = s.la → s'.C = s.C → post z d s' → ∃ δ', Ss N δ x (some (.hb s')) δ' ∧ DBm X s0 sts δ' nx rt)
    (hp : ∀ i : Nat, N[i]? = some x → plainM i δ = true)
    (he : starEach (e :: es) X.env = (false, eval e X.env) :: starEach es X.env := by rfl) (hpl : (backTo p3 (starEach es X.env)).any (·.1) = false := by rfl)
    (ht : eval (.Call (.Attribute (.Name x p2) f apos) (e :: es) [] p3) X.env = (do
      let ov ← eval (.Name x p2) X.env
      standAt apos.atName
      let (f, first) ← holding [ov] (getMethod ov f pl)
      callWith p3 f first (backTo p3 (starEach (e :: es) X.env)) (backToKw p3 (keywordEach [] X.env))) := by rfl) :
    DBm X s0 (.Expr (.Call (.Attribute (.Name x p2) f apos) (e :: es) [] p3) pos :: sts) δ nx rt := ⟨fun Es E Bs B Hs H σ ok bm D fi => by
  obtain ⟨g, fd, ps, F, h1, h2⟩ := c.ex
  obtain ⟨i, j1, j2⟩ := hs.at
  obtain ⟨v, h3, rfl, hO⟩ := ok.slot i _ j2
  obtain ⟨w1, w2, w3⟩ := visB_ok hv
  have F' : FnOk X.prog X.w X.K X.mg X.base CX0 k g fd ps (SpM X.K ms args st pre post) := by rw [S.hP, S.hw, S.hK, S.hmg, S.hb]; exact F
  obtain ⟨dx, v1, v2, vs, b1, _⟩ := id hO
  refine WB.of (pss_cons (ps_expr (pe_meth (pl := pl) (dvs := []) (ds := []) (E := E0) (pe_var (i := i) (by rw [S.n]; exact j1) (by rw [S.hsc]; exact w1) w2 w3) (by rw [S.hK]; exact hk.cls) (by rw [S.hK]; exact h1) F' S.room (by rw [S.hK]; exact h2) .nil pass0 pa_W he hpl ht) rfl) pb_W) ⟨_, h3, s.a, dx, _, rfl, ok.go.hh _ _ b1, off_lookup hf, ?_⟩
  refine h Bs B Hs H σ ok _ fun ds ws Hs1 H1 gg ⟨z, ea, ez, pa, kk⟩ r => ?_
  subst ea ez
  rw [List.append_nil]
  have o1 := ok.mono gg
  obtain ⟨_, h4, _, hO1⟩ := o1.slot i _ j2
  refine ⟨z, Hs1, ws, rfl, gg.sub, hO1.up o1.go.hh, r, pa, fun d v s' Hs' H' gm hO' e1 e2 e3 p rd => ?_⟩
  obtain ⟨δ', hδ, hD⟩ := kk d s' e1 e2 e3 p
  obtain rfl := ss_set S.nd j1 hδ
  obtain ⟨B', o2, bm2⟩ := o1.mutH j2 (hp i j1) gm hO' e1 e2
  exact hD.run Es E Bs B' Hs' H' σ o2 (bm.trans (bm2.addr h0.symm h0'.symm)) D (fi.frm (gg.ss.trans gm.bm.ss))⟩
/-- x.now = e -/
theorem dbm_setN (S : Sc M X k N sc cs) (hk : HallK M.K s.C) (hs : Gt N δ x (.hb s)) (hv : visB sc x = true) (h0 : s.a = s0.a) (h0' : s.la = s0.la)
    (h : DE X e δ fun d => ∃ δ', Ss N δ x (some (.hb { s with d2 := d })) δ' ∧ DBm X s0 sts δ' nx rt) (hp : ∀ i : Nat, N[i]? = some x → plainM i δ = true)
    (hsw : swapsWith e (some (.Attribute (.Name x p2) "now" p3)) pos.line X.env = pure false := by rfl) :
    DBm X s0 (.Assign [.Attribute (.Name x p2) "now" p3] e pos :: sts) δ nx rt := ⟨fun Es E Bs B Hs H σ ok bm D fi => by
  obtain ⟨i, j1, j2⟩ := hs.at
  obtain ⟨w1, w2, w3⟩ := visB_ok hv
  refine WB.of (pss_cons (ps_fld (pe_var (i := i) (by rw [S.n]; exact j1) (by rw [S.hsc]; exact w1) w2 w3) pe_W hsw) pb_W) ?_
  refine h Bs B Hs H σ ok _ fun d v Hs1 H1 gg ⟨δ', hδ, hD⟩ r => ?_
  obtain rfl := ss_set S.nd j1 hδ
  have o1 := ok.mono gg
  obtain ⟨_, h3, rfl, hO⟩ := o1.slot i _ j2
  have hO1 := hO.up o1.go.hh
  obtain ⟨dx, v1, v2, vs, b1, b2, n1, n2, r1, r2, r3⟩ := hO1
  have hal : s.a ≠ s.la := fun z => by rw [z, b2] at b1; cases b1
  refine ⟨_, h3, s.a, s.C, dx, _, rfl, b1, by rw [S.hK]; exact hk.cls, by rw [S.hK]; exact hk.n2, by show 3 < 1000; decide, ?_⟩
  have gm : GoM s Hs1 H1 Hs1 (upd H1 s.a (.ins s.C dx [("ground", v1), ("now", v), ("former", .ref s.la)])) := ⟨⟨Same.refl _, fun q x h1 _ e => (by rw [upd_ne h1]; exact e), fun _ _ h => h, fun _ => (by rw [upd_same]; exact fun z => nomatch z), fun z => (by rw [upd_ne hal.symm]; exact z)⟩, fun q x e => by
    have hq : q ≠ s.a := fun z => by rw [z, n1] at e; cases e
    rw [upd_ne hq]
    exact gg.sub q x e⟩
  have hO2 : ObjAt X.K Hs1 (upd H1 s.a (.ins s.C dx [("ground", v1), ("now", v), ("former", .ref s.la)])) { s with d2 := d } := ⟨dx, v1, v, vs, upd_same, by show upd H1 s.a _ s.la = _; rw [upd_ne hal.symm]; exact b2, n1, n2, r1, r, r3⟩
  obtain ⟨B', o2, bm2⟩ := o1.mutH j2 (hp i j1) gm hO2 rfl rfl
  exact hD.run Es E Bs B' Hs1 _ σ o2 (bm.trans (bm2.addr h0.symm h0'.symm)) D (fi.frm gg.ss)⟩
/-- THE RULE for a method that may change its object -/
theorem fnm_ok {α : Type} {qual : Str} {st0 : Stmt} {fa : Addr} {fd : FuncData} {n0 : Str} {N' ps : List Str} {ms : List Bool} {args : α → List Da} {st : α → HSt} {pre : α → Prop} {post : α → Da → HSt → Prop} (F : Fun M.K x qual st0 fa fd) (S : FnScope (n0 :: N') (n0 :: ps) (defScope st0)) (hl : ms.length = ps.length)
    (hbody : ∀ X, Sc M X k (n0 :: N') (defScope st0) (defScope st0) → ∀ z, pre z → DBm X (st z) (defBody st0) (some (.hb (st z)) :: startS N'.length ms (args z)) (fun δ => ∃ s' δ2, δ = some (.hb s') :: δ2 ∧ s'.a = (st z).a ∧ s'.la = (st z).la ∧ s'.C = (st z).C ∧ post z .non s') (fun δ d => ∃ s' δ2, δ = some (.hb s') :: δ2 ∧ s'.a = (st z).a ∧ s'.la = (st z).la ∧ s'.C = (st z).C ∧ post z d s')) :
    FnOk M.P M.w M.K M.mg M.base CX0 (k + 1) fa fd (n0 :: ps) (SpM M.K ms args st pre post) := by
  refine F.ok S (fun vs H Q E h => ?_) (fun cdv A outer s H vs Q E hr h => ?_)
  · obtain ⟨z, Hs, ws, rfl, _, _, r, _⟩ := h
    rw [List.length_cons, List.length_cons, r.lens, hl]
  · obtain ⟨z, Hs, ws, rfl, e, hO, r, hp, q⟩ := h
    have hN : ms.length ≤ N'.length := by
      have := congrArg List.length S.pre
      rw [List.length_take, List.length_cons, List.length_cons] at this
      omega
    have o1 := (ok_start (N := N') e r hN).consH hO
    have es : (some (V.ref (st z).a) :: L2.start N' ws) = L2.start (n0 :: N') (.ref (st z).a :: ws) := by
      unfold L2.start
      simp
    rw [es] at o1
    have fin : ∀ {d : Da} {v : V} {δ : Sg} {σ : L2.St} {Bs B Hs' H' : Hp}, Ok M.K Bs B Hs' H' σ δ → BaseM (st z) Hs H Bs B → (∃ s' δ2, δ = some (.hb s') :: δ2 ∧ s'.a = (st z).a ∧ s'.la = (st z).la ∧ s'.C = (st z).C ∧ post z d s') → Rp M.K Hs' d v → Q v H' := fun {d v δ σ Bs B Hs' H'} o b ⟨s', δ2, ed, e1, e2, e3, hpo⟩ rd => by
      obtain ⟨_, _, _, hO'⟩ := o.slot 0 (.hb s') (by rw [ed]; rfl)
      exact q d v s' Hs' H' (b.go o.go) (hO'.up o.go.hh) e1 e2 e3 hpo rd
    exact ⟨_, pb_W, (hbody _ (sc_of S hr) z hp).run Hs H Hs H Hs H _ o1 .refl _ ⟨fun δ σ Bs B Hs' H' o b _ h => fin o b h (.a _), fun d v δ σ Bs B Hs' H' o b _ h rd => fin o b h rd⟩⟩
end
end DL

/-! DL34: an object's own list: appended to, popped; loops whose body may change an object. -/
namespace DL
open PySem PySem.Spec PyProof.Rows L2
section
variable {M : Md} {X : Cx} {k : Nat} {N : List Str} {sc cs : Scope} {δ δ' : Sg} {m : Bool} {Φ Ψ : Da → Prop} {x y f : Str} {pos p2 p3 p4 apos : Pos} {e a b o tg it : Expr} {es : List Expr} {s s0 : HSt} {C : Addr} {st1 : Stmt} {sts : List Stmt} {nx : Sg → Prop} {rt : Sg → Da → Prop}
/-- x.former.append(e) -/
theorem dbm_append (S : Sc M X k N sc cs) (hk : HallK M.K s.C) (hs : Gt N δ x (.hb s)) (hv : visB sc x = true) (h0 : s.a = s0.a) (h0' : s.la = s0.la) (hz : s.l3.length < 1000000)
    (h : DE X e δ fun d => ∃ δ', Ss N δ x (some (.hb { s with l3 := s.l3 ++ [d] })) δ' ∧ DBm X s0 sts δ' nx rt) (hp : ∀ i : Nat, N[i]? = some x → plainM i δ = true)
    (hb : attributeBase (.Name x p2) "former" X.env (eval (.Name x p2) X.env) = eval (.Name x p2) X.env := by rfl)
    (hb2 : attributeBase (.Attribute (.Name x p2) "former" p4) "append" X.env (eval (.Attribute (.Name x p2) "former" p4) X.env) = eval (.Attribute (.Name x p2) "former" p4) X.env := by rfl)
    (hfew : ((backTo p3 (starEach [e] X.env)).all (fun x => !x.1) && (backToKw p3 (keywordEach [] X.env)).all (fun x => x.1.isSome)
      && decide ([e].length + ([] : List Keyword).length + (if ([] : List Keyword).isEmpty then 0 else 1) < 30)) = true := by rfl)
    (hline : (apos.endLine == p3.line) = true := by rfl) (hst : starEach [e] X.env = (false, eval e X.env) :: starEach [] X.env := by rfl) :
    DBm X s0 (.Expr (.Call (.Attribute (.Attribute (.Name x p2) "former" p4) "append" apos) [e] [] p3) pos :: sts) δ nx rt := ⟨fun Es E Bs B Hs H σ ok bm D fi => by
  obtain ⟨i, j1, j2⟩ := hs.at
  obtain ⟨_, h3, rfl, hO⟩ := ok.slot i _ j2
  obtain ⟨w1, w2, w3⟩ := visB_ok hv
  obtain ⟨dx, v1, v2, vs, b1, b2, n1, n2, r1, r2, r3⟩ := hO.up ok.go.hh
  refine WB.of (pss_cons (ps_expr (pe_bm PySem.F.plainAttrs_list PySem.F.slot_list_append PySem.F.type_list_append mt_append (pe_fld (pe_var (i := i) (by rw [S.n]; exact j1) (by rw [S.hsc]; exact w1) w2 w3) hb) (pa_cons pe_W pa_nil hst) hb2 hfew hline hst rfl) rfl) pb_W)
    ⟨_, h3, s.a, s.C, dx, _, .ref s.la, rfl, b1, by rw [S.hK]; exact hk.cls, by rw [S.hK]; exact hk.n3, rfl, .inl ⟨rfl, _, .of b2⟩, h Bs B Hs H σ ok _ fun d w Hs1 H1 gg ⟨δ', hδ, hD⟩ rd => ?_⟩
  obtain rfl := ss_set S.nd j1 hδ
  have o1 := ok.mono gg
  obtain ⟨_, _, _, hO1⟩ := o1.slot i _ j2
  obtain ⟨dx1, u1, u2, us, c1, c2, m1, m2, q1, q2, q3⟩ := hO1.up o1.go.hh
  have eqs : vs = us := by
    have := gg.hh _ _ b2
    rw [c2] at this
    cases this
    rfl
  subst eqs
  have hal : s.a ≠ s.la := fun z => by rw [z, c2] at c1; cases c1
  have hl := q3.len
  refine ⟨s.la, vs, w, rfl, rfl, c2, by have : sizeLine = 16777216 := sizeLine_eq; omega, ?_⟩
  have gm : GoM s Hs1 H1 Hs1 (upd H1 s.la (.lst (vs ++ [w]))) := ⟨⟨Same.refl _, fun q x _ h2 e => (by rw [upd_ne h2]; exact e), fun _ _ h => h, fun z => (by rw [upd_ne hal]; exact z), fun _ => (by rw [upd_same]; exact fun z => nomatch z)⟩, fun q x e => by
    have hq : q ≠ s.la := fun z => by rw [z, m2] at e; cases e
    rw [upd_ne hq]
    exact gg.sub q x e⟩
  have hO2 : ObjAt X.K Hs1 (upd H1 s.la (.lst (vs ++ [w]))) { s with l3 := s.l3 ++ [d] } := ⟨dx1, u1, u2, vs ++ [w], by show upd H1 s.la _ s.a = _; rw [upd_ne hal]; exact c1, upd_same, m1, m2, q1, q2, q3.app (.cons rd .nil)⟩
  obtain ⟨B', o2, bm2⟩ := o1.mutH j2 (hp i j1) gm hO2 rfl rfl
  exact hD.run Es E Bs B' Hs1 _ σ o2 (bm.trans (bm2.addr h0.symm h0'.symm)) D (fi.frm gg.ss)⟩
/-- for tg in it: a body that may change the object -/
theorem dbm_for (S : Sc M X k N sc cs) {body : List Stmt} (h : DI X tg it δ fun ds => ∃ I : Nat → Sg → Prop, I 0 δ ∧
      (∀ i d δ', ds[i]? = some d → I i δ' → ∃ nm, DG X tg nm d δ' fun δ2 => DBm X s0 body δ2 (I (i + 1)) rt) ∧ ∀ δ', I ds.length δ' → DBm X s0 sts δ' nx rt)
    (hs : ∀ x, foldedSetIterable it X.env x = pure x := by intro _; rfl) : DBm X s0 (.For tg it body [] pos :: sts) δ nx rt := ⟨fun Es E Bs B Hs H σ o bm D f =>
  WB.of (pss_cons (ps_for S.po S.calm pi_W pg_W pb_W hs) pb_W) (h Bs B Hs H σ o _ fun ds J G Y Hs1 H1 g1 ⟨I, i0, step, fin⟩ wk hG hY => by
    refine for_it wk (fun i σ2 H2 => ∃ Bs2 B2 Hs2 δ2, Same Hs1 Hs2 ∧ Ok X.K Bs2 B2 Hs2 H2 σ2 δ2 ∧ BaseM s0 Es E Bs2 B2 ∧ i ≤ ds.length ∧ I i δ2) ?_ ?_ ?_ ?_
    · exact ⟨Bs, B, Hs1, δ, Same.refl _, o.mono g1, bm, Nat.zero_le _, i0⟩
    · rintro i σ2 H2 hi ⟨Bs2, B2, Hs2, δ2, s2, o2, _⟩
      exact hG Hs2 H2 s2 o2.sub
    · rintro i x σ2 H2 H3 hi ⟨Bs2, B2, Hs2, δ2, s2, o2, b2, _, pi⟩ hy
      obtain ⟨d, hd⟩ : ∃ d, ds[i]? = some d := ⟨ds[i], by simp [hi]⟩
      obtain ⟨Hs3, g3, rd⟩ := hY i d Hs2 H2 x H3 s2 o2.sub hd hy
      obtain ⟨nm, stp⟩ := step i d δ2 hd pi
      refine stp Bs2 B2 Hs3 H3 σ2 x (o2.mono g3) rd _ fun δ4 σ4 Hs4 H4 o4 g4 _ p4 => ?_
      have s4 := (s2.trans g3.ss).trans g4.ss
      exact p4.run Es E Bs2 B2 Hs4 H4 σ4 o4 b2 _ ⟨fun δ5 σ5 Bs5 B5 Hs5 H5 o5 b5 s5 p5 => ⟨Bs5, B5, Hs5, δ5, s4.trans s5, o5, b5, by omega, p5⟩, fun d v δ5 σ5 Bs5 B5 Hs5 H5 o5 b5 s5 p5 r5 => f.rt d v δ5 σ5 Bs5 B5 Hs5 H5 o5 b5 (g1.ss.trans (s4.trans s5)) p5 r5⟩
    · rintro σ2 H2 ⟨Bs2, B2, Hs2, δ2, s2, o2, b2, _, pi⟩
      exact (fin δ2 pi).run Es E Bs2 B2 Hs2 H2 σ2 o2 b2 D (f.frm (g1.ss.trans s2)))⟩
end
end DL

/-! DL35: x.now = x.former.pop(); x.former as a value. -/
namespace DL
open PySem PySem.Spec PyProof.Rows L2
section
variable {M : Md} {X : Cx} {k : Nat} {N : List Str} {sc cs : Scope} {δ δ' : Sg} {m : Bool} {Φ Ψ : Da → Prop} {x y f : Str} {pos p2 p3 p3' p4 p5 apos : Pos} {e a b o tg it : Expr} {es : List Expr} {s s0 : HSt} {C : Addr} {st1 : Stmt} {sts : List Stmt} {nx : Sg → Prop} {rt : Sg → Da → Prop}
theorem dv_fldF (S : Sc M X k N sc cs) (hs : Gt N δ x (.hb s)) (hv : visB sc x = true) (hk : HallK M.K s.C) (h : Φ (.lst s.l3)) (hb : attributeBase (.Name x p2) "former" X.env (eval (.Name x p2) X.env) = eval (.Name x p2) X.env := by rfl) :
    DV X (.Attribute (.Name x p2) "former" pos) δ Φ := .mk fun Bs B Hs H σ o Q q => by
  obtain ⟨i, h1, h2⟩ := hs.at
  obtain ⟨v, h3, rfl, hO⟩ := o.slot i _ h2
  obtain ⟨dx, v1, v2, vs, b1, b2, n1, n2, r1, r2, r3⟩ := hO.up o.go.hh
  obtain ⟨w1, w2, w3⟩ := visB_ok hv
  exact WE.of (pe_fld (pe_var (i := i) (by rw [S.n]; exact h1) (by rw [S.hsc]; exact w1) w2 w3) hb) ⟨_, h3, s.a, s.C, dx, _, .ref s.la, rfl, b1, by rw [S.hK]; exact hk.cls, by rw [S.hK]; exact hk.n3, rfl, q _ _ Hs H (Go.refl o.sub) h (.lst b2 (r3.mono o.sub))⟩
theorem dbm_pop (S : Sc M X k N sc cs) (hk : HallK M.K s.C) (hs : Gt N δ x (.hb s)) (hv : visB sc x = true) (h0 : s.a = s0.a) (h0' : s.la = s0.la) {l : List Da} {d : Da} (hl : s.l3 = l ++ [d])
    (h : ∃ δ', Ss N δ x (some (.hb { s with d2 := d, l3 := l })) δ' ∧ DBm X s0 sts δ' nx rt) (hp : ∀ i : Nat, N[i]? = some x → plainM i δ = true)
    (hb : attributeBase (.Name x p4) "former" X.env (eval (.Name x p4) X.env) = eval (.Name x p4) X.env := by rfl)
    (hb2 : attributeBase (.Attribute (.Name x p4) "former" p5) "pop" X.env (eval (.Attribute (.Name x p4) "former" p5) X.env) = eval (.Attribute (.Name x p4) "former" p5) X.env := by rfl)
    (hline : (apos.endLine == p3.line) = true := by rfl)
    (hsw : swapsWith (.Call (.Attribute (.Attribute (.Name x p4) "former" p5) "pop" apos) [] [] p3) (some (.Attribute (.Name x p2) "now" p3')) pos.line X.env = pure false := by rfl) :
    DBm X s0 (.Assign [.Attribute (.Name x p2) "now" p3'] (.Call (.Attribute (.Attribute (.Name x p4) "former" p5) "pop" apos) [] [] p3) pos :: sts) δ nx rt := ⟨fun Es E Bs B Hs H σ ok bm D fi => by
  obtain ⟨i, j1, j2⟩ := hs.at
  obtain ⟨_, h3, rfl, hO⟩ := ok.slot i _ j2
  obtain ⟨w1, w2, w3⟩ := visB_ok hv
  obtain ⟨dx, v1, v2, vs, b1, b2, n1, n2, r1, r2, r3⟩ := hO.up ok.go.hh
  obtain ⟨δ', hδ, hD⟩ := h
  obtain rfl := ss_set S.nd j1 hδ
  rw [hl] at r3
  have hln := r3.len
  obtain ⟨w, hw1, rw1⟩ := r3.get (i := l.length) (d := d) (by simp)
  have hal : s.a ≠ s.la := fun z => by rw [z, b2] at b1; cases b1
  refine WB.of (pss_cons (ps_fld (pe_var (i := i) (by rw [S.n]; exact j1) (by rw [S.hsc]; exact w1) w2 w3) (pe_bm0 PySem.F.plainAttrs_list PySem.F.slot_list_pop PySem.F.type_list_pop mt_pop (pe_fld (pe_var (i := i) (by rw [S.n]; exact j1) (by rw [S.hsc]; exact w1) w2 w3) hb) hb2 hline) hsw) pb_W)
    ⟨_, h3, s.a, s.C, dx, _, .ref s.la, rfl, b1, by rw [S.hK]; exact hk.cls, by rw [S.hK]; exact hk.n3, rfl, .inl ⟨rfl, _, .of b2⟩, s.la, vs, w, rfl, rfl, b2, ?_, ?_⟩
  · rw [← hln]
    simpa using hw1
  have a1 : upd H s.la (.lst vs.dropLast) s.a = some (.ins s.C dx [("ground", v1), ("now", v2), ("former", .ref s.la)]) := by rw [upd_ne hal]; exact b1
  refine ⟨_, h3, s.a, s.C, dx, _, rfl, a1, by rw [S.hK]; exact hk.cls, by rw [S.hK]; exact hk.n2, by show 3 < 1000; decide, ?_⟩
  have gm : GoM s Hs H Hs (upd (upd H s.la (.lst vs.dropLast)) s.a (.ins s.C dx [("ground", v1), ("now", w), ("former", .ref s.la)])) := ⟨⟨Same.refl _, fun q x h1 h2 e => (by rw [upd_ne h1, upd_ne h2]; exact e), fun _ _ h => h, fun _ => (by rw [upd_same]; exact fun z => nomatch z), fun _ => (by rw [upd_ne hal.symm, upd_same]; exact fun z => nomatch z)⟩, fun q x e => by
    have hq : q ≠ s.a := fun z => by rw [z, n1] at e; cases e
    have hq2 : q ≠ s.la := fun z => by rw [z, n2] at e; cases e
    rw [upd_ne hq, upd_ne hq2]
    exact ok.sub q x e⟩
  have hO2 : ObjAt X.K Hs (upd (upd H s.la (.lst vs.dropLast)) s.a (.ins s.C dx [("ground", v1), ("now", w), ("former", .ref s.la)])) { s with d2 := d, l3 := l } := ⟨dx, v1, w, vs.dropLast, upd_same, by show upd (upd H s.la _) s.a _ s.la = _; rw [upd_ne hal.symm, upd_same], n1, n2, r1, rw1, by have := r3.dropLast; simpa using this⟩
  obtain ⟨B', o2, bm2⟩ := ok.mutH j2 (hp i j1) gm hO2 rfl rfl
  exact hD.run Es E Bs B' Hs _ σ o2 (bm.trans (bm2.addr h0.symm h0'.symm)) D (fi.frm (Same.refl _))⟩
end
end DL

/-! DL36: len(x) of an object; sorted(d.items()) of texts; dict(list of pairs). -/
namespace DL
open PySem PySem.Spec PyProof.Rows L2
/-- what is new becomes stable -/
def newer (H H' Hs : Hp) : Hp := fun q => match H q with
  | none => H' q
  | some _ => Hs q
theorem newer_new {H H' Hs : Hp} {q : Addr} (h : H q = none) : newer H H' Hs q = H' q := by unfold newer; rw [h]
theorem newer_old {H H' Hs : Hp} {q : Addr} {o : HO} (h : H q = some o) : newer H H' Hs q = Hs q := by unfold newer; rw [h]
theorem Go.newer {Hs H H' : Hp} (e : Same Hs H) (g : Same H H') : Go Hs H (newer H H' Hs) H' := by
  refine ⟨fun q o h => by rw [newer_old (e q o h)]; exact h, g, fun q o h => ?_, fun q h1 h2 => ?_⟩
  · cases hq : H q with
    | none => rw [newer_new hq] at h; exact h
    | some x => rw [newer_old hq] at h; exact g _ _ (e _ _ h)
  · cases hq : H q with
    | none => exact absurd hq h1
    | some x => rw [newer_old hq]; exact h2
section
variable {X : Cx}
theorem call_lenU {k : Nat} {f C : Addr} {fd : FuncData} {ps : List Str} {sp : Sp} (F : FnOk X.prog X.w X.K X.mg X.base CX0 k f fd ps sp) (hr : Room (k + 1) X.A) (hm : Meth X.K C "__len__" f) (hb : Binds X.K fd ps []) :
    CallR X (.builtin "len") (fun xs H Q => ∃ a dx fs, xs = [V.ref a] ∧ H a = some (.ins C dx fs) ∧ sp [V.ref a] H (fun v H' => ∃ n : Int, v = .int n ∧ 0 ≤ n ∧ n < 2 ^ 63 ∧ Q (.int n) H') E0) := by
  intro pins s σ H xs us Q I r h
  obtain ⟨a, dx, fs, rfl, ha, q⟩ := h
  obtain rfl := Vals.ref1 r
  obtain ⟨mA, J, _⟩ := ins_get I.hok ha
  obtain ⟨od, J, _⟩ := J.look
  obtain ⟨m, hF⟩ := I.fr
  refine PySem.W.len_K hF I.ok.mod.kin J hm.at_ hm.fn ?_
  have hl := F.len _ _ _ _ q
  have r2 : Vals [V.ref a] [Value.ref a] := .cons rfl .nil
  refine wpAny_call (codeAny_mono (F.run X.A.in1 X.stack s H ⟨[.ref a], []⟩ [.ref a] [.ref a] _ E0 hr.in1 I.env0.in1 (by
    have := hb s [.ref a] I.kIn (by simpa using hl)
    simpa using this) r2 q) fun r s' hq => ?_)
  cases r with
  | error e => exact pass0 pins σ H s e s' I hq
  | ok fl =>
    cases fl with
    | ret u =>
      obtain ⟨v, H', I', rv, n, rfl, h0, h1, qq⟩ := I.after hq
      obtain ⟨t, rfl⟩ := rv
      exact ⟨⟨h0, h1⟩, .int n, H', I'.tok _, ⟨_, rfl⟩, qq⟩
    | next => exact False.elim hq
    | brk => exact False.elim hq
    | cont => exact False.elim hq
end
section
variable {M : Md} {X : Cx} {k : Nat} {N : List Str} {sc cs : Scope} {δ δ' : Sg} {m : Bool} {Φ Ψ : Da → Prop} {x y f : Str} {pos p2 p3 p4 apos : Pos} {e a b o tg it : Expr} {es : List Expr} {s s0 : HSt} {C : Addr}
theorem de_lenH {α : Type} {args : α → List Da} {st : α → HSt} {pre : α → Prop} {post : α → Da → Prop} (S : Sc M X (k + 1) N sc cs) (hk : HallK M.K s.C) (c : CalQ M k s.C "__len__" [] args st pre post) (hs : Gt N δ x (.hb s)) (hv : visB sc x = true) (hm : M.mg "len" = none) (hg : glB sc "len" = true)
    (h : ∃ z, [] = args z ∧ st z = s ∧ pre z ∧ ∀ d, post z d → ∃ n : Int, d = .int n ∧ 0 ≤ n ∧ n < 2 ^ 63 ∧ Φ (.int n))
    (he : starEach [.Name x p3] X.env = (false, eval (.Name x p3) X.env) :: starEach [] X.env := by rfl) : DM X m (.Call (.Name "len" p2) [.Name x p3] [] pos) δ Φ := DM.of <| .mk fun Bs B Hs H σ ok Q q => by
  obtain ⟨g, fd, ps, F, h1, h2⟩ := c.ex
  obtain ⟨i, j1, j2⟩ := hs.at
  obtain ⟨v, h3, rfl, hO⟩ := ok.slot i _ j2
  obtain ⟨w1, w2, w3⟩ := visB_ok hv
  obtain ⟨g1, g2, g3⟩ := glB_ok hg
  have F' : FnOk X.prog X.w X.K X.mg X.base CX0 k g fd ps (SpQ X.K [] args st pre post) := by rw [S.hP, S.hw, S.hK, S.hmg, S.hb]; exact F
  obtain ⟨dx, v1, v2, vs, b1, _⟩ := id hO
  obtain ⟨z, ea, rfl, pa, kk⟩ := h
  refine WE.of (pe_callB (call_lenU (C := (st z).C) F' S.room (by rw [S.hK]; exact h1) (by rw [S.hK]; exact h2)) (by show X.env.scope.names.lookup _ = _; rw [S.hsc]; exact g1) (by rw [S.hmg]; exact hm) PySem.boot_len (pa_cons (pe_var (i := i) (by rw [S.n]; exact j1) (by rw [S.hsc]; exact w1) w2 w3) pa_nil he) g3 g2 he (by rfl)) ?_
  refine ⟨_, h3, (st z).a, dx, _, rfl, ok.go.hh _ _ b1, z, Hs, [], rfl, ok.sub, hO.up ok.go.hh, by rw [← ea]; exact .nil, pa, fun d v Hs' H' g p rd => ?_⟩
  obtain ⟨n, rfl, n0, n1, pf⟩ := kk d p
  cases rd.atom
  exact ⟨n, rfl, n0, n1, q _ _ Hs' H' g pf (.a _)⟩
end
end DL

/-! DL37: sorted(d.items()) of texts; dict(list of pairs). -/
namespace DL
open PySem PySem.Spec PyProof.Rows L2
/-- v is a pair of texts -/
def PairTx (h : Heap) (v : Value) (x y : Str) : Prop := ∃ (a : Addr) (t u : Tok), v = .ref a ∧ IsTup h a #[.str x t, .str y u]
/-- the text by which b is sorted -/
def keyAt (as : List Addr) (ks : List (Str × Str)) (v : Value) : Str × Str := match v with
  | .ref b => ks.getD (as.idxOf b) (⟨#[]⟩, ⟨#[]⟩)
  | _ => (⟨#[]⟩, ⟨#[]⟩)
theorem idx_nodup : ∀ {as : List Addr} {j : Nat} {b : Addr}, as.Nodup → as[j]? = some b → as.idxOf b = j := fun {as j b} nd h => by
  obtain ⟨h1, h2⟩ := List.getElem?_eq_some_iff.mp h
  rw [← h2]
  exact nd.idxOf_getElem j h1
theorem keyAt_at {as : List Addr} {ks : List (Str × Str)} {j : Nat} {b : Addr} {e : Str × Str} (nd : as.Nodup) (h : as[j]? = some b) (hk : ks[j]? = some e) : keyAt as ks (.ref b) = e := by
  show ks.getD (as.idxOf b) _ = e
  rw [idx_nodup nd h, List.getD_eq_getElem?_getD, hk]
  rfl
def ltTx (k : Value → Str × Str) : Value → Value → Bool := fun v u => decide ((k v).1.cps.toList < (k u).1.cps.toList)
theorem swo_tx (k : Value → Str × Str) : SrtO.Swo (ltTx k) := by
  refine ⟨fun x y h => ?_, fun x y z h1 h2 => ?_⟩
  · unfold ltTx at h ⊢
    have := of_decide_eq_true h
    exact decide_eq_false (List.lt_asymm this)
  · unfold ltTx at h1 h2 ⊢
    have a1 := of_decide_eq_false h1
    have a2 := of_decide_eq_false h2
    exact decide_eq_false (List.not_lt.mpr (List.le_trans (List.not_lt.mp a1) (List.not_lt.mp a2)))
section
variable {prog : Program} {w : World} {A : Around} {E : Value → Shared → Prop} {s : Shared}
theorem firsts_tx {h : Heap} {k : Value → Str × Str} : ∀ {vs : List Value}, (∀ v ∈ vs, PairTx h v (k v).1 (k v).2) → ∃ fs : List Value, PySem.W.KatTups h vs fs ∧ fs.length = vs.length ∧ ∀ f ∈ fs, ∃ x t, f = Value.str x t
  | [], _ => ⟨[], PySem.W.KatTups.nil, rfl, fun f hf => by simp at hf⟩
  | v :: vs, x => by
    obtain ⟨fs, kt, hl, hi⟩ := firsts_tx (vs := vs) fun u hu => x u (List.mem_cons_of_mem _ hu)
    obtain ⟨a, t, u, e, ⟨o, ho, hc, n, hd⟩⟩ := x v (List.mem_cons_self ..)
    refine ⟨.str (k v).1 t :: fs, by rw [e]; exact PySem.W.KatTups.cons ho hc hd (by rw [← e]; rfl) kt, by rw [List.length_cons, List.length_cons, hl], fun f hf => ?_⟩
    rcases List.mem_cons.mp hf with rfl | hf
    · exact ⟨_, _, rfl⟩
    · exact hi f hf
theorem tx_cmp {vs : List Value} {k : Value → Str × Str} (hp : ∀ v ∈ vs, PairTx s.heap v (k v).1 (k v).2) (hk : ∀ v ∈ vs, ∀ u ∈ vs, (k v).1 = (k u).1 → (k v).2 = (k u).2) : SrtO.Cmp prog w A s (tuples' true) (fun p => p.1 ∈ vs) (SrtO.lt2 (ltTx k)) := by
  intro p q hm hm'
  have h1 := hp _ hm
  have h2 := hp _ hm'
  have h3 := hk _ hm _ hm'
  show wpAny (model prog w) A (keyLt' (tuples' true) p.1 q.1) (fun r s' => s' = s ∧ r = ltTx k p.1 q.1) (fun _ _ => False) s
  unfold ltTx
  generalize (k p.1).1 = x at h1 h3 ⊢
  generalize (k p.1).2 = y at h1 h3 ⊢
  generalize (k q.1).1 = x' at h2 h3 ⊢
  generalize (k q.1).2 = y' at h2 h3 ⊢
  obtain ⟨a, t, u, e, o, ho, hc, n, hd⟩ := h1
  obtain ⟨a', t', u', e', o', ho', hc', n', hd'⟩ := h2
  rw [e, e']
  refine PySem.W.kat_lt ho hd ho' hd' ?_
  show PySem.W.KatLex prog w A true (decide (2 < 2)) _ [(.str x t, .str x' t'), (.str y u, .str y' u')] 0 s
  refine PySem.W.kat_cons (SeqAt.EqAt.str_str x t x' t' prog w _ _ ?_)
  refine PySem.W.kat_go (fun e1 => ?_) (fun e1 => ?_)
  · have ex : x = x' := by simpa using e1
    have ey := h3 ex
    refine PySem.W.kat_yes (PySem.W.kat_cons (SeqAt.EqAt.str_str y u y' u' prog w _ _ ?_))
    refine PySem.W.kat_go (fun e2 => ?_) (fun e2 => ?_)
    · refine PySem.W.kat_yes (PySem.W.kat_nil ⟨rfl, ?_⟩)
      rw [ex]
      exact (decide_eq_false (List.lt_irrefl _)).symm
    · rw [ey] at e2
      simp at e2
  · exact PySem.W.kat_no (oneLt_any_str ⟨rfl, rfl⟩)
theorem PairTx.keeps {h h' : Heap} {v : Value} {x y : Str} (p : PairTx h v x y) (k : ∀ b o, h.get? b = some o → o.cls = .type "tuple" → h'.get? b = some o) : PairTx h' v x y := by
  obtain ⟨a, t, u, e, ⟨o, ho, hc, n, hd⟩⟩ := p
  exact ⟨a, t, u, e, ⟨o, k _ _ ho hc, hc, n, hd⟩⟩
theorem tx_sortable {a : Addr} {vs : List Value} {k : Value → Str × Str} (h0 : 0 < vs.length) (hp : ∀ v ∈ vs, PairTx s.heap v (k v).1 (k v).2) (hk : ∀ v ∈ vs, ∀ u ∈ vs, (k v).1 = (k u).1 → (k v).2 = (k u).2) (ha : ∀ o, s.heap.get? a = some o → o.cls ≠ .type "tuple") : SrtO.SortableO prog w A s a vs (ltTx k) := by
  intro h' keep
  have hp' : ∀ v ∈ vs, PairTx h' v (k v).1 (k v).2 := fun v hm => (hp v hm).keeps fun b o e c => keep b o (fun z => by subst z; exact ha o e c) e
  obtain ⟨fs, h1, h2, h3⟩ := firsts_tx hp'
  refine ⟨tuples' true, fun Q E hq => ?_, tx_cmp hp' hk⟩
  refine PySem.W.kat_kind (T := .type "str") h1 (by omega) (fun f hm => ?_) (by rfl) ?_
  · obtain ⟨x, t, rfl⟩ := h3 f hm
    exact PySem.W.Looks.now
  · have e : (Value.type "str" != Value.type "tuple") = true := by first | decide +kernel | rfl | decide
    rw [e]
    exact hq
end
/-- a pair of texts as an entry of a dict -/
abbrev entX (e : Str × Str) : Key × V := (Sum.inr e.1, V.str e.2)
section
variable {X : Cx}
def rItemsK : V → List V → Hp → VK → Prop := fun x xs H Q => ∃ (a : Addr) (kvs : List (Key × V)), x = .ref a ∧ xs = [] ∧ H a = some (.dK kvs) ∧ ∀ p, H p = none → Q (.ref p) (upd H p (L2.DX.itemsO p a))
theorem pairs_get {P : Program} {w : World} : ∀ {es : List DictEntry} {vs : List (Key × Value)} {j : Nat} {e : DictEntry}, Pairs (mixKind P w) es vs → es[j]? = some e → ∃ q, vs[j]? = some q ∧ e.val = q.2 ∧ keyIs q.1 e.key = true
  | _, _, _, _, .nil, h => by simp at h
  | _, _, 0, _, .cons h1 h2 _, h => by simp at h; subst h; exact ⟨_, rfl, h2, h1⟩
  | _, _, j + 1, e, .cons _ _ t, h => by
    obtain ⟨q, h1, h2⟩ := pairs_get (j := j) (e := e) t (by simpa using h)
    exact ⟨q, by simpa using h1, h2⟩
theorem raw_of {P : Program} {w : World} {h : Heap} {a : Addr} {vs : List (Key × Value)} (d : h.DictOf (mixKind P w) a vs) : ∃ es ep, DT.Raw h a es ep ∧ es.size = vs.length ∧ ∀ (j : Nat) (e : DictEntry), es[j]? = some e → ∃ q, vs[j]? = some q ∧ e.val = q.2 ∧ keyIs q.1 e.key = true := by
  obtain ⟨o, es, ep, ho, hx, hdat, _, ps, _⟩ := d
  exact ⟨es, ep, ⟨o, ho, hx, hdat⟩, by rw [← ps.length, Array.length_toList], fun j e h => pairs_get ps (by simpa using h)⟩
theorem mt_itemsK : MtR X "dict.items" rItemsK := by
  intro pins s σ H x xs v us Q I rx rxs h
  obtain ⟨a, kvs, rfl, rfl, ha, q⟩ := h
  cases rx
  cases rxs
  obtain ⟨z, hd, vs, kv, dd⟩ := dk_of I.hok ha
  obtain ⟨es, ep, raw, _⟩ := raw_of dd
  refine DT.callItems (es := es) (ep := ep) hd raw ?_
  have hf : H s.heap.objs.size = none := I.hok.fresh (Nat.le_refl _)
  exact ⟨.ref s.heap.objs.size, upd H s.heap.objs.size (L2.DX.itemsO s.heap.objs.size a), I.laid (t' := s.toks) (fun b u e => Heap.get?_push_of_some _ e) (Nat.le_refl _) (L2.DX.itemsO_ok (Heap.get?_push_size _ rfl)), rfl, q _ hf⟩
/-- keys and values are texts, the keys differ -/
def rSortTx : List V → Hp → VK → Prop := fun vs H Q => ∃ (p a : Addr) (ks : List (Str × Str)), vs = [.ref p] ∧ H p = some (L2.DX.itemsO p a) ∧ H a = some (.dK (ks.map entX)) ∧ ks.length < 1000 ∧ (∀ e ∈ ks, ∀ f ∈ ks, e.1 = f.1 → e.2 = f.2) ∧
  ∀ (H' : Hp) (l : Addr) (zs : List (Addr × Str × Str)), Same H H' → (zs.map (·.2)).Perm ks → H l = none → H' l = some (.lst (zs.map fun z => V.ref z.1)) → (∀ z ∈ zs, H z.1 = none ∧ H' z.1 = some (.tup [.str z.2.1, .str z.2.2])) → Q (.ref l) H'
theorem cr_sortedTx (hc : X.calm = true) : CallR X (.builtin "sorted") rSortTx := by
  intro pins s σ H xs us Q I r h
  obtain ⟨p, a, ks, rfl, hp, ha, h64, hv, q⟩ := h
  obtain rfl := Vals.ref1 r
  have view : s.heap.IsItemsView p a := (show ObjOk X.prog X.w H s.heap p (L2.DX.itemsO p a) from I.hok p _ hp).1
  obtain ⟨z, hd, vs, kv, dd⟩ := dk_of I.hok ha
  obtain ⟨es, ep, raw, hes, hen⟩ := raw_of dd
  have l1 : (ks.map entX).length = vs.length := Paired.length kv
  rw [List.length_map] at l1
  have hh : X.A.handled = none := I.ok.hd hc
  refine DT.sortedI (es := es) (ep := ep) hh view raw (by rw [sizeLine_eq]; omega) fun h' tk as hk hlt hl hG => ?_
  have lak : as.length = ks.length := by omega
  have nd : as.Nodup := List.Pairwise.imp (fun h => Nat.ne_of_lt h) hG.rise
  -- the pairs that were made
  have pr : ∀ (j : Nat) (b : Addr), as[j]? = some b → ∃ (e : Str × Str) (t u : Tok), ks[j]? = some e ∧ h'.get? b = some { cls := .type "tuple", data := .seq #[Value.str e.1 t, Value.str e.2 u] } := by
    intro j b hj
    obtain ⟨en, he, hg⟩ := hG.pairs j b hj
    obtain ⟨qv, h1, h2, h3⟩ := hen j en he
    obtain ⟨e0, he0, r1, r2⟩ := L2.DX.pget kv h1
    rw [List.getElem?_map] at he0
    cases hkj : ks[j]? with
    | none => rw [hkj] at he0; cases he0
    | some e =>
      rw [hkj] at he0
      have ee : entX e = e0 := Option.some.inj he0
      subst ee
      obtain ⟨u, hu⟩ := r2
      rcases keyIs_shape h3 with ⟨i, t, e1, e2⟩ | ⟨x, t, e1, e2⟩
      · rw [e1] at r1; cases r1
      · have ex : e.1 = x := by rw [e1] at r1; exact Sum.inr.inj r1
        refine ⟨e, t, u, rfl, ?_⟩
        rw [hg, h2, hu, e2, ex]
  have at_ : ∀ v ∈ as.map Value.ref, ∃ (j : Nat) (b : Addr) (e : Str × Str), v = .ref b ∧ as[j]? = some b ∧ ks[j]? = some e := by
    intro v hv'
    obtain ⟨b, hb, rfl⟩ := List.mem_map.mp hv'
    obtain ⟨j, hj⟩ := List.mem_iff_getElem?.mp hb
    obtain ⟨e, _, _, he, _⟩ := pr j b hj
    exact ⟨j, b, e, rfl, hj, he⟩
  have hob : (h'.push { cls := .type "list", data := .seq (as.map Value.ref).toArray }).get? h'.objs.size = some (seqObj "list" (as.map Value.ref).toArray 0) := Heap.get?_push_size _ rfl
  have kb : ∀ b o, s.heap.get? b = some o → (h'.push { cls := .type "list", data := .seq (as.map Value.ref).toArray }).get? b = some o := fun b o e => Heap.get?_push_of_some _ (hk b o e)
  have ne0 : ∀ b o, h'.get? b = some o → b ≠ h'.objs.size := fun b o e => Nat.ne_of_lt (Heap.lt_size e)
  generalize hh2 : h'.push { cls := .type "list", data := .seq (as.map Value.ref).toArray } = h2 at hob kb ⊢
  have ka : ∀ b o, h'.get? b = some o → h2.get? b = some o := fun b o e => by rw [← hh2]; exact Heap.get?_push_of_some _ e
  have hlen0 : (as.map Value.ref).length ≤ sizeLine := by rw [List.length_map, sizeLine_eq]; omega
  refine wpAny_call_entry PyProof.Rows.slot_list_sort ⟨_, hob, rfl⟩ PyProof.Rows.entry_list_sort (SrtO.list_sort_ord (s := { s with heap := h2, toks := tk }) (swo_tx (keyAt as ks)) hob hlen0 (fun h2' => ?_) fun out o1 o2 => ⟨.none, rfl, ?_⟩) (PyProof.Rows.args_list_sort _)
  · refine tx_sortable (s := { s with heap := h2, toks := tk }) (by omega) (fun v hv' => ?_) (fun v hv' u hu' => ?_) fun o e => ?_
    · obtain ⟨j, b, e, rfl, hj, he⟩ := at_ v hv'
      obtain ⟨e', t, u, he', hg⟩ := pr j b hj
      obtain rfl : e = e' := Option.some.inj (he.symm.trans he')
      rw [keyAt_at nd hj he]
      exact ⟨b, t, u, rfl, ⟨_, ka _ _ hg, rfl, 0, rfl⟩⟩
    · obtain ⟨j, b, e, rfl, hj, he⟩ := at_ v hv'
      obtain ⟨j2, b2, e2, rfl, hj2, he2⟩ := at_ u hu'
      rw [keyAt_at nd hj he, keyAt_at nd hj2 he2]
      exact hv e (List.mem_of_getElem? he) e2 (List.mem_of_getElem? he2)
    · have e' : some o = some (seqObj "list" (as.map Value.ref).toArray 0) := e.symm.trans hob
      cases e'
      intro c
      exact absurd (Value.type.inj c) (by decide)
  · show EP X pins σ Q (.ref h'.objs.size) { s with heap := sortedHeap h2 h'.objs.size (as.map Value.ref) out.toArray, toks := tk }
    obtain ⟨zs, pz, ez⟩ : ∃ zs : List (Addr × Str × Str), zs.Perm (as.zip ks) ∧ zs.map (fun z => Value.ref z.1) = out := by
      have e1 : (as.zip ks).map (fun z => Value.ref z.1) = as.map Value.ref := by
        have : (as.zip ks).map (fun z => Value.ref z.1) = ((as.zip ks).map (·.1)).map Value.ref := by rw [List.map_map]; rfl
        rw [this, List.map_fst_zip (by omega)]
      have p1 := o2.perm
      rw [← e1] at p1
      exact perm_lift (fun z : Addr × Str × Str => Value.ref z.1) p1 (as.zip ks) rfl
    have idx : ∀ z ∈ zs, ∃ j : Nat, as[j]? = some z.1 ∧ ks[j]? = some z.2 := by
      intro z' hz'
      obtain ⟨j, hj⟩ := List.mem_iff_getElem?.mp (pz.mem_iff.mp hz')
      exact ⟨j, List.getElem?_zip_eq_some.mp hj⟩
    have hperm : (zs.map (·.2)).Perm ks := by
      have e := pz.map (·.2)
      have m2 : (as.zip ks).map (·.2) = ks := List.map_snd_zip (by rw [lak]; exact Nat.le_refl _)
      rw [m2] at e
      exact e
    have kF : ∀ b o, b ≠ h'.objs.size → h2.get? b = some o → (sortedHeap h2 h'.objs.size (as.map Value.ref) out.toArray).get? b = some o := fun b o hb e => (PyProof.Rows.sortedHeap_old hb (Heap.lt_size e)).trans e
    have kS : ∀ b o, s.heap.get? b = some o → (sortedHeap h2 h'.objs.size (as.map Value.ref) out.toArray).get? b = some o := fun b o e => kF b o (ne0 _ _ (hk b o e)) (kb b o e)
    obtain ⟨eF, heF⟩ := PyProof.Rows.sortedHeap_at (vs := as.map Value.ref) (out := out.toArray) hob
    have I1 : Inv X pins σ H { s with heap := sortedHeap h2 h'.objs.size (as.map Value.ref) out.toArray, toks := tk } := I.kept (t' := tk) kS
    have hn0 : H h'.objs.size = none := I.hok.fresh (Nat.le_of_lt hlt)
    have hlen : (zs.map fun z => V.ref z.1).length ≤ sizeLine := by
      have e := hperm.length_eq
      rw [List.length_map] at e
      rw [List.length_map, sizeLine_eq]
      omega
    have rv : Vals (zs.map fun z => V.ref z.1) out := by
      rw [← ez]
      exact vals_maps (fun z : Addr × Str × Str => V.ref z.1) (fun z => Value.ref z.1) zs fun _ _ => rfl
    have I2 : Inv X pins σ (upd H h'.objs.size (.lst (zs.map fun z => V.ref z.1))) { s with heap := sortedHeap h2 h'.objs.size (as.map Value.ref) out.toArray, toks := tk } :=
      I1.take (h' := sortedHeap h2 h'.objs.size (as.map Value.ref) out.toArray) (t' := tk) (fun b ob _ e => e) (I.fpOk (Nat.le_of_lt hlt) hn0) ⟨hlen, out, eF, rv, heF⟩
    obtain ⟨H2, I3, g, qt⟩ := L2.DX.takeT (P := fun b vs => ∃ (j : Nat) (e : Str × Str), as[j]? = some b ∧ ks[j]? = some e ∧ vs = [.str e.1, .str e.2]) I as _ I2 nd fun b hb => by
      obtain ⟨j, hj⟩ := List.mem_iff_getElem?.mp hb
      obtain ⟨e, t, u, he, hg⟩ := pr j b hj
      have hbl : s.heap.objs.size ≤ b := Nat.le_of_lt (hG.above b hb)
      refine ⟨hbl, ?_, [.str e.1, .str e.2], ⟨j, e, hj, he, rfl⟩, fun H3 => ⟨(by rw [sizeLine_eq]; show 2 ≤ 16777216; omega), [Value.str e.1 t, Value.str e.2 u], .cons ⟨_, rfl⟩ (.cons ⟨_, rfl⟩ .nil), ⟨_, kF _ _ (ne0 _ _ hg) (ka _ _ hg), rfl, 0, rfl⟩⟩⟩
      rw [upd_ne (ne0 _ _ hg)]
      exact I.hok.fresh hbl
    have gr : ∀ b o, H b = some o → H2 b = some o := fun b o e => g b o (by rw [upd_ne (ne_of_none e hn0)]; exact e)
    refine ⟨.ref h'.objs.size, H2, I3, rfl, q H2 h'.objs.size zs gr hperm hn0 (g _ _ upd_same) fun z' hz' => ?_⟩
    obtain ⟨i, i1, i2⟩ := idx z' hz'
    obtain ⟨vs, ⟨j, e, j1, j2, ev⟩, hH⟩ := qt z'.1 (List.mem_of_getElem? i1)
    have eij : i = j := (List.getElem?_inj (List.getElem?_eq_some_iff.mp i1).1 nd).mp (i1.trans j1.symm)
    subst eij
    have ee : e = z'.2 := Option.some.inj (j2.symm.trans i2)
    rw [ev, ee] at hH
    exact ⟨I.hok.fresh (Nat.le_of_lt (hG.above _ (List.mem_of_getElem? i1))), hH⟩
end
end DL

/-! DL38: sorted(e.items()), dict(pairs); y = {a: b for a, b in x.now[0].items() if ..}; own things frozen, methods without arguments, ahead of an object's change. -/
namespace DL
open PySem PySem.Spec PyProof.Rows L2
abbrev pairD (e : Str × Str) : Da := .tup [.str e.1, .str e.2]
section
variable {M : Md} {X : Cx} {k : Nat} {N : List Str} {sc cs : Scope} {δ δ' : Sg} {m : Bool} {Φ Ψ : Da → Prop} {x y f : Str} {pos p2 p3 p4 p5 apos cpos : Pos} {e a b o tg it kx vx : Expr} {es : List Expr} {s s0 : HSt} {C : Addr} {sts : List Stmt} {nx bk ct : Sg → Prop} {rt : Sg → Da → Prop} {rd : Da → Prop}
/-- sorted(e.items()) -/
theorem de_sortedItems (S : Sc M X k N sc cs) (hm : M.mg "sorted" = none) (hg : glB sc "sorted" = true)
    (h : DE X e δ fun d => ∃ ks : List (Str × Str), d = .dk (ks.map entX) ∧ ks.length < 1000 ∧ (∀ e ∈ ks, ∀ f ∈ ks, e.1 = f.1 → e.2 = f.2) ∧ ∀ qs : List (Str × Str), qs.Perm ks → Φ (.lst (qs.map pairD)))
    (hb : attributeBase e "items" X.env (eval e X.env) = eval e X.env := by rfl) (hline : (apos.endLine == cpos.line) = true := by rfl)
    (he : starEach [.Call (.Attribute e "items" apos) [] [] cpos] X.env = (false, eval (.Call (.Attribute e "items" apos) [] [] cpos) X.env) :: starEach [] X.env := by rfl) :
    DM X m (.Call (.Name "sorted" p2) [.Call (.Attribute e "items" apos) [] [] cpos] [] pos) δ Φ := DM.of <| .mk fun Bs B Hs H σ ok Q q => by
  obtain ⟨g1, g2, g3⟩ := glB_ok hg
  refine WE.of (pe_callB (cr_sortedTx S.calm) (by show X.env.scope.names.lookup _ = _; rw [S.hsc]; exact g1) (by rw [S.hmg]; exact hm) (by decide +kernel : bootBuiltins "sorted" = some (.builtin "sorted")) (pa_cons (pe_bm0 PySem.F.plainAttrs_dict PySem.F.slot_dict_items PySem.F.type_dict_items mt_itemsK pe_W hb hline) pa_nil he) g3 g2 he (by rfl)) ?_
  refine h Bs B Hs H σ ok _ fun d v Hs1 H1 gg ⟨ks, ed, hl, hf, kk⟩ r => ?_
  subst ed
  obtain ⟨p, rfl, hp⟩ := r.dk_inv
  have hp1 := gg.sub _ _ hp
  refine ⟨.inr (.inr (.inl ⟨rfl, .inl ⟨_, hp1⟩⟩)), p, _, rfl, rfl, hp1, fun t ht => ?_⟩
  have ne : p ≠ t := fun z => by rw [← z, hp1] at ht; cases ht
  refine ⟨t, p, ks, rfl, upd_same, by rw [upd_ne ne]; exact hp1, hl, hf, fun H' l zs sm pm hn hl' hz => ?_⟩
  have sm1 : Same H1 H' := (same_upd ht).trans sm
  have gn := Go.newer gg.sub sm1
  have nn : ∀ {q : Addr}, upd H1 t (L2.DX.itemsO t p) q = none → H1 q = none := fun {q} h => by
    by_cases e : q = t
    · rw [e]; exact ht
    · rwa [upd_ne e] at h
  have all : ∀ ws : List (Addr × Str × Str), (∀ z ∈ ws, z ∈ zs) → RpAll X.K (newer H1 H' Hs1) ((ws.map (·.2)).map pairD) (ws.map fun z => V.ref z.1) := by
    intro ws
    induction ws with
    | nil => intro _; exact .nil
    | cons w ws ih =>
      intro hw
      obtain ⟨h1, h2⟩ := hz w (hw w List.mem_cons_self)
      exact .cons (.tup (vs := [.str w.2.1, .str w.2.2]) (by rw [newer_new (nn h1)]; exact h2) (.cons (.a _) (.cons (.a _) .nil))) (ih fun z hz => hw z (List.mem_cons_of_mem _ hz))
  have rr : Rp X.K (newer H1 H' Hs1) (.lst ((zs.map (·.2)).map pairD)) (.ref l) := .lst (p := l) (vs := zs.map fun z => V.ref z.1) (by rw [newer_new (nn hn)]; exact hl') (all zs fun _ z => z)
  have pm' := kk _ pm
  exact q _ _ _ H' (gg.trans gn) pm' rr
/-- dict(pairs) -/
theorem bw_dictP (S : Sc M X k N sc cs) {ks : List (Str × Str)} (h : Φ (.dk (mergeK [] (ks.map entX)))) : BW X (.type "dict") [.lst (ks.map pairD)] Φ := fun Hs H vs e rr Q q => by
  cases rr with
  | cons r t =>
    cases t
    obtain ⟨a, ws, rfl, ha, ra⟩ := r.lst_inv
    have main : ∀ {ks : List (Str × Str)} {ws : List V}, RpAll X.K Hs (ks.map pairD) ws → ∃ ps : List Addr, ws = ps.map V.ref ∧ Paired (fun p (kv : Key × V) => SqT X.K H p [kV kv.1, kv.2]) ps (ks.map entX) := by
      intro ks
      induction ks with
      | nil => intro ws r; cases r; exact ⟨[], rfl, .nil⟩
      | cons e' ks ih =>
        intro ws r
        cases r with
        | cons r1 r2 =>
          obtain ⟨ps, rfl, hp⟩ := ih r2
          obtain ⟨t, us, rfl, ht, ru⟩ := r1.tup_inv
          have ru2 : RpAll X.K Hs ([V.str e'.1, V.str e'.2].map Da.a) us := ru
          rw [ru2.atoms] at ht
          exact ⟨t :: ps, rfl, .cons (.of (e _ _ ht)) hp⟩
    obtain ⟨ps, rfl, hp⟩ := main ra
    exact rCW_of (call_dictP S.calm) ⟨a, ps, _, rfl, .of (e _ _ ha), hp, fun p hp => q _ _ _ _ (Go.new e hp) h (.dk upd_same)⟩
/-- an own thing becomes data, ahead of a change -/
theorem dbm_freeze {t0 : SD} {d : Da} (nd : N.Nodup) (hg : Gt N δ x t0) (hf : t0.frozen = some d) (hs : ∃ δ', Ss N δ x (some (.d d)) δ' ∧ DBm X s0 sts δ' nx rt) : DBm X s0 sts δ nx rt := ⟨fun Es E Bs B Hs H σ o bm D fi => by
  obtain ⟨i, h1, h2⟩ := hg.at
  obtain ⟨δ', hδ, hD⟩ := hs
  obtain rfl := ss_set nd h1 hδ
  obtain ⟨Hs', sm, o'⟩ := o.freeze h2 hf
  exact hD.run Es E Bs B Hs' H σ o' bm D (fi.frm sm)⟩
/-- x.m(), as a statement -/
theorem dbm_meth0 {α : Type} {args : α → List Da} {st : α → HSt} {pre : α → Prop} {post : α → Da → HSt → Prop} {pl : Sem Bool} (S : Sc M X k N sc cs) (hk : HallK M.K s.C) (c : CalM M k s.C f [] args st pre post) (hs : Gt N δ x (.hb s)) (hv : visB sc x = true) (hf : offH f = true)
    (h0 : s.a = s0.a) (h0' : s.la = s0.la)
    (h : ∃ z, [] = args z ∧ st z = s ∧ pre z ∧ ∀ d s', s'.a = s.a → s'.la = s.la → s'.C = s.C → post z d s' → ∃ δ', Ss N δ x (some (.hb s')) δ' ∧ DBm X s0 sts δ' nx rt)
    (hp : ∀ i : Nat, N[i]? = some x → plainM i δ = true)
    (ht : eval (.Call (.Attribute (.Name x p2) f apos) [] [] p3) X.env = (do
      let ov ← eval (.Name x p2) X.env
      standAt apos.atName
      let (f, first) ← holding [ov] (getMethod ov f pl)
      callWith p3 f first (backTo p3 (starEach [] X.env)) (backToKw p3 (keywordEach [] X.env))) := by rfl) :
    DBm X s0 (.Expr (.Call (.Attribute (.Name x p2) f apos) [] [] p3) pos :: sts) δ nx rt := ⟨fun Es E Bs B Hs H σ ok bm D fi => by
  obtain ⟨g, fd, ps, F, h1, h2⟩ := c.ex
  obtain ⟨i, j1, j2⟩ := hs.at
  obtain ⟨v, h3, rfl, hO⟩ := ok.slot i _ j2
  obtain ⟨w1, w2, w3⟩ := visB_ok hv
  have F' : FnOk X.prog X.w X.K X.mg X.base CX0 k g fd ps (SpM X.K [] args st pre post) := by rw [S.hP, S.hw, S.hK, S.hmg, S.hb]; exact F
  obtain ⟨dx, v1, v2, vs, b1, _⟩ := id hO
  refine WB.of (pss_cons (ps_expr (pe_meth0 (pl := pl) (dvs := []) (ds := []) (E := E0) (pe_var (i := i) (by rw [S.n]; exact j1) (by rw [S.hsc]; exact w1) w2 w3) (by rw [S.hK]; exact hk.cls) (by rw [S.hK]; exact h1) F' S.room (by rw [S.hK]; exact h2) .nil pass0 ht) rfl) pb_W) ⟨_, h3, s.a, dx, _, rfl, ok.go.hh _ _ b1, off_lookup hf, ?_⟩
  obtain ⟨z, ea, ez, pa, kk⟩ := h
  subst ez
  refine ⟨z, Hs, [], rfl, ok.sub, hO.up ok.go.hh, by rw [← ea]; exact .nil, pa, fun d v s' Hs' H' gm hO' e1 e2 e3 p rd => ?_⟩
  obtain ⟨δ', hδ, hD⟩ := kk d s' e1 e2 e3 p
  obtain rfl := ss_set S.nd j1 hδ
  obtain ⟨B', o2, bm2⟩ := ok.mutH j2 (hp i j1) gm hO' e1 e2
  exact hD.run Es E Bs B' Hs' H' σ o2 (bm.trans (bm2.addr h0.symm h0'.symm)) D (fi.frm gm.bm.ss)⟩
end
/-! ### {a: b for a, b in x.now[0].items() if ..} -/
section
variable {X : Cx}
theorem ps_setDc {i : Nat} {y : Str} {py : Pos} {kx vx tg it : Expr} {ifs : List Expr} {scope : Scope} {own : List (Str × Nat)} {pos spos : Pos} {wi : TI} {g : TG} {tt : TT} {tk tv : TE} (hc : X.calm = true) (hN : X.N.Nodup) (hy : X.N[i]? = some y)
    (hyl : X.env.scope.names.lookup y = some .local) (hsw : swapsWith (.DictComp kx vx [⟨tg, it, ifs, 0⟩] scope pos) (some (.Name y py)) spos.line X.env = pure true) (hi : PI X tg it wi) (ok : BlkOk X.N X.env.scope scope own)
    (hg : ∀ (s : Shared) (H : Hp) (C : Addr) (cl : List (Str × Addr)) (fp : List Addr), PG (X.blk s H scope (compEnvC scope cl C X.env) fp) tg g)
    (ht : ∀ (s : Shared) (H : Hp) (C : Addr) (cl : List (Str × Addr)) (fp : List Addr), PTs (X.blk s H scope (compEnvC scope cl C X.env) fp) ifs tt)
    (hk : ∀ (s : Shared) (H : Hp) (C : Addr) (cl : List (Str × Addr)) (fp : List Addr), PE (X.blk s H scope (compEnvC scope cl C X.env) fp) kx tk)
    (he : ∀ (s : Shared) (H : Hp) (C : Addr) (cl : List (Str × Addr)) (fp : List Addr), PE (X.blk s H scope (compEnvC scope cl C X.env) fp) vx tv) (hs : ∀ x, foldedSetIterable it X.env x = pure x) :
    PS X (.Assign [.Name y py] (.DictComp kx vx [⟨tg, it, ifs, 0⟩] scope pos) spos) (tAsg (tDc wi g tt tk tv (own.map (·.2))) (gName i)) := .mk fun pins s σ H D I h => by
  rw [exec_Assign_Name_used _ _ _ _ hsw]
  have h : tDc wi g tt tk tv (own.map (·.2)) σ H (fun x H1 => gName i x σ H1 D.nx) := h
  have run := dc_core (pos' := firstIterPos [⟨tg, it, ifs, 0⟩] pos) (pos := pos) (use := some (assign (.Name y py) X.env)) (Qf := fun _ s' => SP X pins D .next s') hc hN I hi ok hg ht hk he hs h fun L C s' m H' I' q hn f => by
    refine wpAny_assign_Name (store_ok2 (v := V.ref L) I' hN hy (.inl hyl) rfl (fun s2 I2 ⟨a, sb, ha⟩ => ?_) (.inr hyl))
    obtain ⟨f0, f1, f2, f3, f4, f5⟩ := f
    have haC : C ≠ a := ha.elim (fun z => z ▸ f1) fun z e => f4 y a z e.symm
    exact ⟨m, hn.sameBut sb haC, fun h3 sb3 => ⟨_, H', I2.turned (t' := s2.toks) (fun b o hb e => (sb3.2 b hb).trans e) f0 f1 f3 f4 f5, q⟩⟩
  refine wpAny_bind (wpAny_standAt (wpAny_bind ?_))
  exact wpAny_bind (thn run fun _ s' hq => wpAny_pure (wpAny_pure hq))
theorem dc_it {J : It} {n : Nat} {G : Hp → Prop} {Y : Nat → Hp → V → Hp → Prop} {g : TG} {tt : TT} {tk tv : TE} {vs : List Nat} {σ : L2.St} {H1 : Hp} {D : Addr} {Qd : Hp → Prop} (wk : Walk J n G Y) (Pv : Nat → Hp → Prop) (h0 : Pv 0 (upd H1 D (.dK []))) (hq : ∀ i H, i ≤ n → Pv i H → G H)
    (hs : ∀ i x H H', i < n → Pv i H → Y i H x H' → g x (L2.wipe σ vs) H' fun σ2 H2 => L2.wipe σ2 vs = L2.wipe σ vs ∧ tt σ2 H2 fun c H3 =>
      if c = true then tk σ2 H3 fun y H4 => tv σ2 H4 fun z H5 => ∃ kvs k, y = kV k ∧ H5 D = some (.dK kvs) ∧ kvs.length < sizeLine ∧ Pv (i + 1) (upd H5 D (.dK (putK kvs k z))) else Pv (i + 1) H3) (hd : ∀ H, Pv n H → Qd H) :
    ∃ W : Nat → Nat → Hp → Prop, (∃ m, W 0 m (upd H1 D (.dK []))) ∧ ∀ i m H, W i m H → (J.stop i H ∧ Qd H) ∨ (J.go i H ∧ ∃ Z : Hp → Prop, (∀ H', Z H' → ∃ j, j < m ∧ W (i + 1) j H') ∧ ∀ x H', J.yld i H x H' → g x (L2.wipe σ vs) H' fun σ2 H2 => L2.wipe σ2 vs = L2.wipe σ vs ∧ tt σ2 H2 fun c H3 =>
      if c = true then tk σ2 H3 fun y H4 => tv σ2 H4 fun z H5 => ∃ kvs k, y = kV k ∧ H5 D = some (.dK kvs) ∧ kvs.length < sizeLine ∧ Z (upd H5 D (.dK (putK kvs k z))) else Z H3) := by
  refine ⟨fun i m H => m = n - i ∧ i ≤ n ∧ Pv i H, ⟨n, by simp, Nat.zero_le _, h0⟩, ?_⟩
  rintro i m H ⟨rfl, hi, p⟩
  by_cases hlt : i < n
  · exact .inr ⟨wk.goes i H hlt (hq i H hi p), Pv (i + 1), fun H' p' => ⟨n - (i + 1), by omega, rfl, hlt, p'⟩, fun x H' y => hs i x H H' hlt p (wk.yields i H x H' hlt (hq i H hi p) y)⟩
  · obtain rfl : i = n := by omega
    exact .inl ⟨wk.stops H (hq i H hi p), hd H p⟩
end
theorem at0 {α : Type} (x : α) (l : List α) : atI (x :: l) 0 = some x := by
  unfold atI ixN
  rw [if_pos (by omega), if_pos (by simp only [List.length_cons]; omega)]
  rfl
/-- just atoms of δ are left -/
structure AtomS (δ δ0 : Sg) : Prop where
  len : δ0.length = δ.length
  at_ : ∀ (i : Nat) (t : SD), δ0[i]? = some (some t) → ∃ v, t = .d (.a v) ∧ δ[i]? = some (some (.d (.a v)))
theorem Ok.atoms {K : PySem.W.Frag} {Bs B Hs H : Hp} {σ : L2.St} {δ δ0 : Sg} (o : Ok K Bs B Hs H σ δ) (A : AtomS δ δ0) (G : Hp) : Ok K G G G G σ δ0 := by
  refine ⟨Go.refl (Same.refl _), fun i t e => ?_, by rw [o.len, A.len], fun i t p e w _ => ?_, fun i j t u p e _ w _ _ _ => ?_⟩
  · obtain ⟨v, rfl, h⟩ := A.at_ i t e
    obtain ⟨v', h1, h2⟩ := o.slot i _ h
    have h3 : Rp K Hs (.a v) v' := h2
    cases h3.atom
    exact ⟨_, h1, .a _⟩
  · obtain ⟨v, rfl, h⟩ := A.at_ i t e
    cases w
  · obtain ⟨v, rfl, h⟩ := A.at_ i t e
    cases w
section
variable {M : Md} {X : Cx} {k : Nat} {N : List Str} {sc cs : Scope} {δ δ0 δw : Sg} {m : Bool} {x y f : Str} {pos p2 p3 p4 p5 py lp apos cpos tp : Pos} {es : List Expr} {kx vx : Expr} {s s0 : HSt} {nx bk ct : Sg → Prop} {rt : Da → Prop}
theorem ds_itemsDc (S : Sc M X k N sc cs) {j kk : Nat} {scope : Scope} {ifs : List Expr} {os : List Str} {kvs : List (Key × V)} {r : List Da} (hk : HallK M.K s.C) (hx : Gt N δ x (.hb s)) (hv : visB sc x = true) (hd : s.d2 = .tup (.dk kvs :: r)) (hz : kvs.length ≤ 1000000) (hA : AtomS δ δ0) (hw : Wp N os δ0 δw)
    (P : Nat → List (Key × V) → Prop) (p0 : P 0 [])
    (step : ∀ X', Sc M X' k N (relS scope sc) scope → ∀ (i : Nat) q acc, kvs[i]? = some q → P i acc → DG X' (.Tuple es j tp) os (.tup [.a (kV q.1), .a q.2]) δw fun δ2 => ∀ X', Sc M X' k N (relS scope sc) scope → DTs X' ifs δ2 fun c =>
      (c = true → ∀ X', Sc M X' k N (relS scope sc) scope → DE X' kx δ2 fun y => ∀ X', Sc M X' k N (relS scope sc) scope → DE X' vx δ2 fun z => ∃ q v, y = .a (kV q) ∧ z = .a v ∧ P (i + 1) (putK acc q v)) ∧ (c = false → P (i + 1) acc))
    (fin : ∀ acc, P kvs.length acc → ∃ δ', Ss N δ y (some (.ok acc)) δ' ∧ nx δ')
    (hbl : blkB N sc scope os = true)
    (hy : (sc.names.lookup y == some .local && (py.line == lp.line) && !(scope.names.any fun (n, k) => n == y && (k == .local || k == .cell))) = true) (hN : N.contains y = true)
    (hb : attributeBase (.Name x p2) "now" X.env (eval (.Name x p2) X.env) = eval (.Name x p2) X.env := by rfl)
    (hpi : PlainIx (.Constant (.int 0) kk p4) := by intro _ _; rfl)
    (hbi : attributeBase (.Subscript (.Attribute (.Name x p2) "now" p3) (.Constant (.int 0) kk p4) p5) "items" X.env (eval (.Subscript (.Attribute (.Name x p2) "now" p3) (.Constant (.int 0) kk p4) p5) X.env) = eval (.Subscript (.Attribute (.Name x p2) "now" p3) (.Constant (.int 0) kk p4) p5) X.env := by rfl)
    (hline : (apos.endLine == cpos.line) = true := by rfl)
    (hs : ∀ z, foldedSetIterable (.Call (.Attribute (.Subscript (.Attribute (.Name x p2) "now" p3) (.Constant (.int 0) kk p4) p5) "items" apos) [] [] cpos) X.env z = pure z := by intro _; rfl) :
    DS X (.Assign [.Name y py] (.DictComp kx vx [⟨.Tuple es j tp, .Call (.Attribute (.Subscript (.Attribute (.Name x p2) "now" p3) (.Constant (.int 0) kk p4) p5) "items" apos) [] [] cpos, ifs, 0⟩] scope lp) pos) δ nx rt bk ct := .mk fun Bs B Hs H σ o D f => by
  have ok : BlkOk X.N X.env.scope scope (ownOf N os) := by rw [S.n, S.hsc]; exact blkOk_by hbl
  have nd := S.nd
  simp only [Bool.and_eq_true, beq_iff_eq, Bool.not_eq_true'] at hy
  obtain ⟨⟨h1, h2⟩, h3⟩ := hy
  obtain ⟨i, hi⟩ : ∃ i : Nat, N[i]? = some y := List.mem_iff_getElem?.mp (by simpa using hN)
  have hkd : X.env.scope.kind = .function := by rw [S.hsc]; exact S.kind
  have sw : swapsWith (.DictComp kx vx [⟨.Tuple es j tp, .Call (.Attribute (.Subscript (.Attribute (.Name x p2) "now" p3) (.Constant (.int 0) kk p4) p5) "items" apos) [] [] cpos, ifs, 0⟩] scope lp) (some (.Name y py)) pos.line X.env = pure true := by
    have ky : X.env.kindOf y = some .local := by show X.env.scope.names.lookup y = _; rw [S.hsc]; exact h1
    have hb : X.env.blockKind = .function := by unfold Env.blockKind; rw [hkd]; rfl
    unfold swapsWith
    simp only [hb, ky, h3, Expr.pos, h2, beq_self_eq_true]
    rfl
  -- the object, its dict
  obtain ⟨a, a1, a2⟩ := hx.at
  obtain ⟨_, b1, rfl, hO⟩ := o.slot a _ a2
  obtain ⟨dx, v1, v2, vs, c1, c2, n1, n2, r1, r2, r3⟩ := id hO
  rw [hd] at r2
  obtain ⟨t, ws, rfl, ht, rw_⟩ := r2.tup_inv
  obtain ⟨p, ps, rfl, hp, rp⟩ : ∃ p ps, ws = V.ref p :: ps ∧ Hs p = some (.dK kvs) ∧ RpAll X.K Hs r ps := by
    cases rw_ with
    | cons q1 q2 =>
      obtain ⟨p, rfl, hp⟩ := q1.dk_inv
      exact ⟨p, _, rfl, hp, q2⟩
  have hpH := o.sub _ _ hp
  have htH := o.sub _ _ ht
  have haH := o.go.hh _ _ c1
  have nap : s.a ≠ p := fun z => by rw [z, hpH] at haH; cases haH
  have ntp : t ≠ p := fun z => by rw [z, hpH] at htH; cases htH
  obtain ⟨w1, w2, w3⟩ := visB_ok hv
  refine WS.of (ps_lock ps_W) ⟨p, _, hpH, True.intro, fun od => ?_⟩
  intro pins st I
  refine WS.of (ps_setDc (i := i) S.calm (by rw [S.n]; exact nd) (by rw [S.n]; exact hi) (by rw [S.hsc]; exact h1) sw (pi_items (pe_ix ix_tup (pe_fld (pe_var (i := a) (by rw [S.n]; exact a1) (by rw [S.hsc]; exact w1) w2 w3) hb) pe_int hpi) hbi hline) ok pgb_W ptb_W peb_W peb_W hs) ?_ pins st I
  have lkA : upd H p (.frz od (.dK kvs)) s.a = H s.a := upd_ne nap
  have lkT : upd H p (.frz od (.dK kvs)) t = H t := upd_ne ntp
  refine ⟨_, b1, s.a, s.C, dx, _, .ref t, rfl, by rw [lkA]; exact haH, by rw [S.hK]; exact hk.cls, by rw [S.hK]; exact hk.n2, rfl, t, _, 0, .ref p, rfl, rfl, .of (by rw [lkT]; exact htH), at0 _ _, ?_⟩
  refine ⟨p, od, kvs, rfl, upd_same, fun D' hD => ?_⟩
  have nDp : D' ≠ p := fun z => by rw [z, upd_same] at hD; cases hD
  have hD0 : H D' = none := by rwa [upd_ne nDp] at hD
  refine dc_it walk_items (fun i H2 => ∃ acc, (∀ q o, q ≠ D' → upd H p (.frz od (.dK kvs)) q = some o → H2 q = some o) ∧ H2 D' = some (.dK acc) ∧ acc.length ≤ i ∧ i ≤ kvs.length ∧ P i acc) ?_ ?_ ?_ ?_
  · exact ⟨[], fun q o e z => by rw [upd_ne e]; exact z, upd_same, Nat.le_refl _, Nat.zero_le _, p0⟩
  · rintro i H2 hi ⟨acc, kp, _⟩
    exact kp p _ (Ne.symm nDp) upd_same
  · rintro i x H2 H3 hi ⟨acc, kp, hDv, hl, _, pi⟩ ⟨T, k1, v1, rfl, hT, rfl, e1, e2⟩ sB H0 C cl fp
    intro pins s' u I r
    obtain ⟨q, hq⟩ : ∃ q, kvs[i]? = some q := ⟨kvs[i], by simp [hi]⟩
    have e1' : kvs[i]?.map (fun kv => kV kv.1) = some k1 := e1
    have e2' : kvs[i]?.map Prod.snd = some v1 := e2
    rw [hq] at e1' e2'
    cases e1'
    cases e2'
    have hsl : σ.length = N.length := by
      have := I.len
      rw [wipe_length] at this
      rw [this]
      exact congrArg List.length S.n
    have rt : Rp X.K (upd H2 T (.tup [kV q.1, q.2])) (.tup [.a (kV q.1), .a q.2]) (.ref T) := .tup upd_same (.cons (.a _) (.cons (.a _) .nil))
    have tD : D' ≠ T := fun z => by rw [← z, hDv] at hT; cases hT
    have kp3 : Same H2 (upd H2 T (.tup [kV q.1, q.2])) := same_upd hT
    refine step (X.blk sB H0 scope (compEnvC scope cl C X.env) fp) (S.blk ok.kind) i q acc hq pi _ _ _ _ _ (.ref T) ((o.atoms hA _).wipe nd hw) rt _ (fun δ2 σ2 Hs4 H4 o4 g4 kpn hts => ?_) pins s' u I r
    refine ⟨wipe_keep nd hsl (by have kp' : Keep X.N os _ σ2 := kpn; rw [S.n] at kp'; exact kp') fun _ z => z, fun s H0 C cl fp pins s' I => ?_⟩
    refine hts (X.blk s H0 scope (compEnvC scope cl C X.env) fp) (S.blk ok.kind) _ _ Hs4 H4 σ2 o4 _ (fun c Hs5 H5 g5 p5 => ?_) pins s' I
    have g35 : Same H2 H5 := (kp3.trans g4.hh).trans g5.hh
    cases c with
    | false => exact iteF ⟨acc, fun q o e z => g35 _ _ (kp q o e z), g35 _ _ hDv, by omega, by omega, p5.2 rfl⟩
    | true =>
      refine iteT fun s H0 C cl fp pins s' I => ?_
      have o5 := o4.mono g5
      refine p5.1 rfl (X.blk s H0 scope (compEnvC scope cl C X.env) fp) (S.blk ok.kind) _ _ Hs5 H5 σ2 o5 _ (fun y v Hs6 H6 g6 p6 r6 => ?_) pins s' I
      intro s H0 C cl fp pins s' I
      refine p6 (X.blk s H0 scope (compEnvC scope cl C X.env) fp) (S.blk ok.kind) _ _ Hs6 H6 σ2 (o5.mono g6) _ (fun z w Hs7 H7 g7 ⟨q2, vw, ey, ez, p7⟩ r7 => ?_) pins s' I
      subst ey ez
      cases r6.atom
      cases r7.atom
      have g37 : Same H2 H7 := (g35.trans g6.hh).trans g7.hh
      have e2 : sizeLine = 16777216 := sizeLine_eq
      have e3 := length_putK acc q2 w
      exact ⟨acc, q2, rfl, g37 _ _ hDv, by omega, putK acc q2 w, fun q o e z => by rw [upd_ne e]; exact g37 _ _ (kp q o e z), upd_same, by omega, by omega, p7⟩
  · rintro H2 ⟨acc, kp, hDv, hl, _, pi⟩
    have hp2 : H2 p = some (.frz od (.dK kvs)) := kp p _ (Ne.symm nDp) upd_same
    refine ⟨hp2, ?_⟩
    obtain ⟨δ', hd', pn⟩ := fin acc pi
    obtain ⟨j, h5, rfl⟩ := hd'.at
    obtain rfl : i = j := nodup_ix S.nd hi h5
    have sm : Same H (upd H2 p (.dK kvs)) := fun q o' z => by
      by_cases e : q = p
      · subst e
        rw [hpH] at z
        cases z
        exact upd_same
      · rw [upd_ne e]
        refine kp q o' (fun w => by rw [w, hD0] at z; cases z) ?_
        rw [upd_ne e]
        exact z
    have gg : Go Hs H Hs (upd H2 p (.dK kvs)) := ⟨Same.refl _, sm, o.sub.trans sm, fun _ _ h => h⟩
    have hB : B D' = none := o.go.hh.free hD0
    have oD : ∀ (i : Nat) (s : SD) (q : Addr), δ[i]? = some (some s) → s.own = true → σ[i]? = some (some (.ref q)) → q ≠ D' := fun i s q e w h z => o.ownAt e w h (by rw [z]; exact hD0)
    exact f.nx _ _ Hs _ ((o.mono gg).adopt i (s0 := .ok acc) hB oD ⟨D', rfl, o.sub.free hD0, by rw [upd_ne nDp]; exact hDv⟩) (Same.refl _) pn
end
end DL

/-! DL39: objects made. -/
namespace DL
open PySem PySem.Spec PyProof.Rows L2
/-- the promise of an __init__ -/
def SpI (K : PySem.W.Frag) (C : Addr) (pre : Da → Prop) (d2 : Da) : Sp := fun vs H Q _ =>
  ∃ (a dx : Addr) (d : Da) (v : V) (Hs : Hp), vs = [.ref a, v] ∧ Same Hs H ∧ H a = some (.ins C dx []) ∧ Hs a = none ∧ Rp K Hs d v ∧ pre d ∧
    ∀ la Hs' H', (∀ q o, q ≠ a → H q = some o → H' q = some o) → H la = none → Same Hs Hs' → Same Hs' H' → (∀ q, H q ≠ none → Hs q = none → Hs' q = none) → ObjAt K Hs' H' ⟨a, la, C, d, d2, []⟩ → Q .non H'
structure CalI (M : Md) (k : Nat) (x : Str) (C : Addr) (pre : Da → Prop) (d2 : Da) : Prop where
  ex : ∃ f fd ps, FnOk M.P M.w M.K M.mg M.base CX0 k f fd ps (SpI M.K C pre d2) ∧ Mk M.K C f ∧ M.mg x = some (.ref C) ∧ Binds M.K fd ps []
theorem CalI.mono {M : Md} {k j : Nat} {C : Addr} {x : Str} {pre : Da → Prop} {d2 : Da} (c : CalI M k x C pre d2) (h : k ≤ j) : CalI M j x C pre d2 := by
  obtain ⟨f, fd, ps, F, h1, h2⟩ := c.ex
  exact ⟨f, fd, ps, F.mono h, h1, h2⟩
section
variable {K : PySem.W.Frag} {Bs B Hs H Hs' H' : Hp} {σ : L2.St} {δ : Sg}
/-- a thing that is not own, stored -/
theorem Ok.setN (o : Ok K Bs B Hs H σ δ) (i : Nat) {t : SD} {v : V} (w : t.own = false) (r : SlotOk K B Hs H t v) : Ok K Bs B Hs H (σ.set i (some v)) (δ.set i (some t)) := by
  refine ⟨o.go, fun j s e => ?_, by simp [o.len], fun j s p e q e2 => ?_, fun j k s t p e1 e2 q1 q2 e3 e4 => ?_⟩
  · rcases set_some_key e with ⟨hj, e⟩ | ⟨rfl, rfl, hl⟩
    · rw [List.getElem?_set_ne (Ne.symm hj)]
      exact o.slot j s e
    · exact ⟨v, by rw [List.getElem?_set_self (by rw [o.len]; exact hl)], r⟩
  · rcases set_some_key e with ⟨hj, e⟩ | ⟨rfl, rfl, hl⟩
    · rw [List.getElem?_set_ne (Ne.symm hj)] at e2
      exact o.fr j s p e q e2
    · rw [w] at q; cases q
  · rcases set_some_key e1 with ⟨hj, e1⟩ | ⟨rfl, rfl, hl⟩
    · rcases set_some_key e2 with ⟨hk, e2⟩ | ⟨rfl, rfl, hl⟩
      · rw [List.getElem?_set_ne (Ne.symm hj)] at e3
        rw [List.getElem?_set_ne (Ne.symm hk)] at e4
        exact o.ap j k _ _ p e1 e2 q1 q2 e3 e4
      · rw [w] at q2; cases q2
    · rw [w] at q1; cases q1
/-- an object joins the base -/
theorem Ok.join {s : HSt} (o : Ok K Bs B Hs H σ δ) (hO : ObjAt K Hs H s) (ha : B s.a = none) (hl : B s.la = none) (hn : ∀ (i : Nat) (t : SD) (q : Addr), δ[i]? = some (some t) → t.own = true → σ[i]? = some (some (.ref q)) → q ≠ s.a ∧ q ≠ s.la) (pl : ∀ (i : Nat) (t : SD), δ[i]? = some (some t) → (∀ d, t ≠ .b d) ∧ ∀ u, t ≠ .hb u) :
    ∃ B2, Ok K Bs B2 Hs H σ δ ∧ ObjAt K Hs B2 s ∧ (∀ q o, B q = some o → B2 q = some o) ∧ (∀ q, q ≠ s.a → q ≠ s.la → B2 q = B q) := by
  obtain ⟨dx, v1, v2, vs, b1, b2, n1, n2, r1, r2, r3⟩ := hO
  have hal : s.a ≠ s.la := fun z => by rw [z, b2] at b1; cases b1
  obtain ⟨B2, hB2⟩ : ∃ B2, B2 = upd (upd B s.a (.ins s.C dx [("ground", v1), ("now", v2), ("former", .ref s.la)])) s.la (.lst vs) := ⟨_, rfl⟩
  have old : ∀ {q : Addr}, q ≠ s.a → q ≠ s.la → B2 q = B q := fun {q} h1 h2 => by rw [hB2, upd_ne h2, upd_ne h1]
  have atA : B2 s.a = some (.ins s.C dx [("ground", v1), ("now", v2), ("former", .ref s.la)]) := by rw [hB2, upd_ne hal, upd_same]
  have atL : B2 s.la = some (.lst vs) := by rw [hB2, upd_same]
  have up : ∀ q o, B q = some o → B2 q = some o := fun q x e => by rw [old (fun z => by rw [z, ha] at e; cases e) (fun z => by rw [z, hl] at e; cases e)]; exact e
  refine ⟨B2, ⟨⟨o.go.ss, fun q x e => ?_, o.go.sub, fun q h1 h2 => ?_⟩, fun i t e => ?_, o.len, fun i t p e w e2 => ?_, o.ap⟩, ⟨dx, v1, v2, vs, atA, atL, n1, n2, r1, r2, r3⟩, up, fun q h1 h2 => old h1 h2⟩
  · by_cases e1 : q = s.a
    · rw [e1, atA] at e; cases e; rw [e1]; exact b1
    by_cases e2 : q = s.la
    · rw [e2, atL] at e; cases e; rw [e2]; exact b2
    rw [old e1 e2] at e
    exact o.go.hh q x e
  · by_cases e1 : q = s.a
    · rw [e1]; exact n1
    by_cases e2 : q = s.la
    · rw [e2]; exact n2
    exact o.go.no q (by rw [← old e1 e2]; exact h1) h2
  · obtain ⟨v, h1, h2⟩ := o.slot i t e
    refine ⟨v, h1, ?_⟩
    obtain ⟨k1, k2⟩ := pl i t e
    cases t with
    | d d => exact h2
    | b d => exact absurd rfl (k1 d)
    | hb u => exact absurd rfl (k2 u)
    | ol l => exact h2
    | ok l => exact h2
    | ot l => exact h2
  · obtain ⟨h1, h2⟩ := hn i t p e w e2
    rw [old h1 h2]
    exact o.fr i t p e w e2
theorem Ok.forget (o : Ok K Bs B Hs H σ δ) (i : Nat) : Ok K Bs B Hs H σ (δ.set i none) := by
  refine ⟨o.go, fun j s e => ?_, by simp [o.len], fun j s p e q e2 => ?_, fun j k s t p e1 e2 q1 q2 e3 e4 => ?_⟩
  · exact o.slot j s (set_none_key e).2
  · exact o.fr j s p (set_none_key e).2 q e2
  · exact o.ap j k s t p (set_none_key e1).2 (set_none_key e2).2 q1 q2 e3 e4
/-- the object leaves the base again -/
theorem Ok.leave {s : HSt} {B0 Bs' B' : Hp} {i : Nat} (o : Ok K Bs' B' Hs H σ δ) (bm : BaseM s Bs B Bs' B') (hB : ∀ q x, B0 q = some x → B q = some x) (ha : B0 s.a = none) (hl : B0 s.la = none) (pl : plainM i δ = true) : Ok K Bs B0 Hs H σ (δ.set i none) ∧ Go Bs B0 Hs H := by
  have up : ∀ q x, B0 q = some x → B' q = some x := fun q x e => bm.hh q x (fun z => by rw [z, ha] at e; cases e) (fun z => by rw [z, hl] at e; cases e) (hB q x e)
  have g : Go Bs B0 Hs H := ⟨bm.ss.trans o.go.ss, fun q x e => o.go.hh q x (up q x e), o.go.sub, fun q h1 h2 => by
    cases e : B0 q with
    | none => exact absurd e h1
    | some x =>
      have e1 := hB q x e
      exact o.go.no q (by rw [up q x e]; exact fun z => nomatch z) (bm.no q (by rw [e1]; exact fun z => nomatch z) h2)⟩
  have ow := o.forget i
  refine ⟨⟨g, fun j t e => ?_, ow.len, fun j t p e w e2 => ?_, ow.ap⟩, g⟩
  · obtain ⟨v, h1, h2⟩ := ow.slot j t e
    refine ⟨v, h1, ?_⟩
    have hm : (some t) ∈ δ.set i none := List.mem_of_getElem? e
    have hp := List.all_eq_true.mp pl _ hm
    cases t with
    | d d => exact h2
    | b d => cases hp
    | hb u => cases hp
    | ol l => exact h2
    | ok l => exact h2
    | ot l => exact h2
  · have := ow.fr j t p e w e2
    cases e3 : B0 p with
    | none => rfl
    | some x => rw [up p x e3] at this; cases this
end
/-- no borrowed thing, no object -/
def plainA (δ : Sg) : Bool := δ.all fun s => match s with
  | some (.b _) => false
  | some (.hb _) => false
  | _ => true
theorem plainA_at {δ : Sg} (h : plainA δ = true) {i : Nat} {t : SD} (e : δ[i]? = some (some t)) : (∀ d, t ≠ .b d) ∧ ∀ u, t ≠ .hb u := by
  have := List.all_eq_true.mp h _ (List.mem_of_getElem? e)
  exact ⟨fun d z => (by subst z; cases this), fun u z => (by subst z; cases this)⟩
section
variable {M : Md} {X : Cx} {k : Nat} {N : List Str} {sc cs : Scope} {δ δ' : Sg} {m : Bool} {Φ Ψ : Da → Prop} {x y z f cn : Str} {pos p2 p3 p4 p5 : Pos} {e a b c : Expr} {es : List Expr} {s s0 : HSt} {C : Addr} {sts : List Stmt} {nx bk ct : Sg → Prop} {rt : Da → Prop} {pre : Da → Prop} {d2 : Da}
/-- x, y, z = C(e), b, c: an object made; what follows may change it -/
theorem db_new3 (S : Sc M X (k + 1) N sc cs) {px py pz pt : Pos} {kt k2 pt2} (ci : CalI M k cn C pre d2) (hg : glB sc cn = true) (pl : plainA δ = true)
    (h : DE X e δ fun d => pre d ∧ DE X b δ fun d' => DE X c δ fun d'' => ∀ s : HSt, s.C = C → s.d1 = d → s.d2 = d2 → s.l3 = [] → ∃ δ1 δ2 δ3, Ss N δ x (some (.hb s)) δ1 ∧ Ss N δ1 y (some (.d d')) δ2 ∧ Ss N δ2 z (some (.d d'')) δ3 ∧
      DBm X s sts δ3 (fun δ4 => (∀ i : Nat, N[i]? = some x → plainM i δ4 = true) ∧ ∃ δ5, Ss N δ4 x none δ5 ∧ nx δ5) (fun δ4 r => (∀ i : Nat, N[i]? = some x → plainM i δ4 = true) ∧ rt r)) (hxy : x ≠ y) (hxz : x ≠ z) (hyz : y ≠ z)
    (hx : (sc.names.lookup x == some .local) = true) (hy : (sc.names.lookup y == some .local) = true) (hz : (sc.names.lookup z == some .local) = true)
    (hw : ∀ env : Env, env.scope = sc → swappedStores [.Tuple [.Name x px, .Name y py, .Name z pz] kt pt] (.Tuple [.Call (.Name cn p2) [e] [] p3, b, c] k2 pt2) env = pure (some [x, y, z]))
    (hN : N.contains x = true) (hN2 : N.contains y = true) (hN3 : N.contains z = true)
    (hs : swapsWithSole [.Tuple [.Name x px, .Name y py, .Name z pz] kt pt] (.Tuple [.Call (.Name cn p2) [e] [] p3, b, c] k2 pt2) pos.line X.env = pure false := by rfl)
    (h1 : starEach [.Call (.Name cn p2) [e] [] p3, b, c] X.env = (false, eval (.Call (.Name cn p2) [e] [] p3) X.env) :: starEach [b, c] X.env := by rfl) (h2 : starEach [b, c] X.env = (false, eval b X.env) :: starEach [c] X.env := by rfl) (h3 : starEach [c] X.env = (false, eval c X.env) :: starEach [] X.env := by rfl)
    (h4 : starEach [e] X.env = (false, eval e X.env) :: starEach [] X.env := by rfl) (hpl : (backTo p3 (starEach [] X.env)).any (·.1) = false := by rfl) :
    DB X (.Assign [.Tuple [.Name x px, .Name y py, .Name z pz] kt pt] (.Tuple [.Call (.Name cn p2) [e] [] p3, b, c] k2 pt2) pos :: sts) δ nx rt bk ct := .mk fun Bs B Hs H σ o D f => by
  obtain ⟨i, hi⟩ : ∃ i : Nat, N[i]? = some x := List.mem_iff_getElem?.mp (by simpa using hN)
  obtain ⟨j, hj⟩ : ∃ i : Nat, N[i]? = some y := List.mem_iff_getElem?.mp (by simpa using hN2)
  obtain ⟨l, hl⟩ : ∃ i : Nat, N[i]? = some z := List.mem_iff_getElem?.mp (by simpa using hN3)
  have nq : ∀ {i j : Nat} {x y : Str}, N[i]? = some x → N[j]? = some y → x ≠ y → i ≠ j := fun hi hj ne e => by
    rw [e, hj] at hi
    exact ne (Option.some.inj hi).symm
  obtain ⟨fa, fd, ps, F, mk, hm, hb⟩ := ci.ex
  obtain ⟨g1, g2, g3⟩ := glB_ok hg
  have F' : FnOk X.prog X.w X.K X.mg X.base CX0 k fa fd ps (SpI X.K C pre d2) := by rw [S.hP, S.hw, S.hK, S.hmg, S.hb]; exact F
  refine WB.of (pss_cons (ps_par3 (i := i) (j := j) (l := l) S.calm (by rw [S.n]; exact S.nd) (by rw [S.n]; exact hi) (by rw [S.n]; exact hj) (by rw [S.n]; exact hl) (nq hi hj hxy) (nq hi hl hxz) (nq hj hl hyz) (by rw [S.hsc]; simpa using hx) (by rw [S.hsc]; simpa using hy) (by rw [S.hsc]; simpa using hz)
    (pa_cons (pe_make (dvs := []) (ds := []) (E := E0) (by rw [S.hK]; exact mk) F' S.room (by show X.env.scope.names.lookup cn = _; rw [S.hsc]; exact g1) (by rw [S.hmg]; exact hm) (by rw [S.hK]; exact hb) .nil pass0 (pa_cons pe_W pa_nil h4) g2 h4 hpl) (pa_cons pe_W (pa_cons pe_W pa_nil h3) h2) h1) (hw _ S.hsc) hs) pb_W) ?_
  refine h Bs B Hs H σ o _ fun d v Hs1 H1 gg1 ⟨pd, hb1⟩ r1 => fun a dx ha hdx ne => ?_
  have sm2 : Same H1 (upd (upd H1 dx (.own a)) a (.ins C dx [])) := (same_upd hdx).trans (same_upd (by rw [upd_ne ne.symm]; exact ha))
  refine ⟨a, dx, d, v, Hs1, rfl, gg1.sub.trans sm2, upd_same, gg1.sub.free ha, r1, pd, fun la Hs3 H3 k1 k2 k3 k4 k5 k7 => ⟨rfl, ?_⟩⟩
  have hla1 : H1 la = none := sm2.free k2
  have gg3 : Go Hs1 H1 Hs3 H3 := ⟨k3, fun q x e => k1 q x (fun w => by rw [w, ha] at e; cases e) (sm2 _ _ e), k4, fun q q1 q2 => k5 q (same_ne sm2 q1) q2⟩
  have o3 := (o.mono gg1).mono gg3
  refine hb1 Bs B Hs3 H3 σ o3 _ fun d' w Hs4 H4 g4 hc r4 => hc Bs B Hs4 H4 σ (o3.mono g4) _ fun d'' u Hs5 H5 g5 hh r5 => ?_
  obtain ⟨sT, hsT⟩ : ∃ sT : HSt, sT = ⟨a, la, C, d, d2, []⟩ := ⟨_, rfl⟩
  rw [← hsT] at k7
  have eA : sT.a = a := by rw [hsT]
  have eL : sT.la = la := by rw [hsT]
  obtain ⟨δ1, δ2, δ3, q1, q2, q3, hD⟩ := hh sT (by rw [hsT]) (by rw [hsT]) (by rw [hsT]) (by rw [hsT])
  have o5 := (o3.mono g4).mono g5
  have g45 := g4.trans g5
  have hO5 : ObjAt X.K Hs5 H5 sT := (k7.mono (Same.refl _) g45).up g45.hh
  have Ba : B sT.a = none := by rw [eA]; exact o.go.hh.free (gg1.hh.free ha)
  have Bl : B sT.la = none := by rw [eL]; exact o.go.hh.free (gg1.hh.free hla1)
  obtain ⟨B2, o6, hO6, up, old⟩ := o5.join hO5 Ba Bl (fun i t q e w h => ⟨fun z => (o.mono gg1).ownAt e w h (by rw [z, eA]; exact ha), fun z => (o.mono gg1).ownAt e w h (by rw [z, eL]; exact hla1)⟩) (fun i t e => plainA_at pl e)
  obtain rfl := ss_set S.nd hi q1
  obtain rfl := ss_set S.nd hj q2
  obtain rfl := ss_set S.nd hl q3
  have o7 := ((o6.setN i (t := .hb sT) (v := .ref sT.a) rfl ⟨rfl, hO6⟩).setD j (Rp.mono g5.ss r4)).setD l r5
  refine ⟨.ref a, w, u, rfl, ?_⟩
  rw [eA] at o7
  have ss0 : Same Hs Hs5 := (gg1.ss.trans gg3.ss).trans g45.ss
  refine hD.run Bs B2 Bs B2 Hs5 H5 _ o7 .refl D ⟨fun δ4 σ4 Bs4 B4 Hs4 H4 o4 bm4 sm4 ⟨pl4, δ5, q5, n5⟩ => ?_, fun d4 v4 δ4 σ4 Bs4 B4 Hs4 H4 o4 bm4 sm4 ⟨pl4, h4⟩ r4 => ?_⟩
  · obtain ⟨lv, _⟩ := o4.leave bm4 up Ba Bl (pl4 i hi)
    obtain ⟨i', e5, rfl⟩ := q5.at
    obtain rfl : i = i' := nodup_ix S.nd hi e5
    exact f.nx _ σ4 Hs4 H4 lv (ss0.trans sm4) n5
  · obtain ⟨_, gv⟩ := o4.leave bm4 up Ba Bl (pl4 i hi)
    exact f.rt d4 v4 Hs4 H4 gv (ss0.trans sm4) h4 r4
end
end DL
namespace DL
open PySem PySem.Spec PyProof.Rows L2
section
variable {M : Md} {X : Cx} {k : Nat} {N : List Str} {sc cs : Scope} {δ δ' : Sg} {m : Bool} {Φ Ψ : Da → Prop} {x y z f cn : Str} {pos p2 p3 p4 p5 : Pos} {e a b c : Expr} {es : List Expr} {s s0 : HSt} {C : Addr} {sts : List Stmt} {nx bk ct : Sg → Prop} {rt : Da → Prop} {pre : Da → Prop} {d2 : Da}
/-- {} as a thing that stays -/
theorem de_dict0 (h : Φ (.dk [])) : DM X m (.Dict [] [] pos) δ Φ := DM.of <| .mk fun Bs B Hs H σ o Q q =>
  WE.of pe_dnewK fun p hp => q _ _ _ _ (Go.new o.sub hp) h (.dk upd_same)
/-- just stable things -/
def plainD (δ : Sg) : Bool := δ.all fun s => match s with
  | some (.d _) => true
  | none => true
  | _ => false
theorem Ok.reb {K : PySem.W.Frag} {Bs B Hs H H' : Hp} {σ : L2.St} (o : Ok K Bs B Hs H σ δ) (pl : plainD δ = true) (e : Same Hs H') : Ok K Hs H' Hs H' σ δ := by
  have pd : ∀ {i : Nat} {t : SD}, δ[i]? = some (some t) → ∃ d, t = .d d := fun {i t} e => by
    have := List.all_eq_true.mp pl _ (List.mem_of_getElem? e)
    cases t with
    | d d => exact ⟨d, rfl⟩
    | b d => cases this
    | ol l => cases this
    | ok l => cases this
    | ot l => cases this
    | hb u => cases this
  refine ⟨Go.refl e, fun i t h => ?_, o.len, fun i t p h w _ => ?_, fun i j t u p h _ w _ _ _ => ?_⟩
  · obtain ⟨d, rfl⟩ := pd h
    exact o.slot i _ h
  · obtain ⟨d, rfl⟩ := pd h
    cases w
  · obtain ⟨d, rfl⟩ := pd h
    cases w
/-- the body of an __init__: a look at what is given, then the three fields -/
theorem wb_init (S : Sc M X k N sc cs) (hk : HallK M.K C) {d : Da} {a dx : Addr} {st1 : Stmt} {kt : Nat} {q1 q2 q3 q4 q5 q6 q7 q8 : Pos} {pa pb pc : Pos} {va vb vc : Expr}
    (hself : Gt N δ x (.d (.a (.ref a)))) (hv : visB sc x = true) (pl : plainD δ = true)
    (h1 : DS X st1 δ (fun δ' => δ' = δ) (fun _ => False) (fun _ => False) (fun _ => False))
    (hA : DE X va δ fun z => z = d) (hB : DE X vb δ fun z => z = d2) (hC : ∀ Q σ H, (∀ la, H la = none → Q (.ref la) (upd H la (.lst []))) → WE X vc σ H Q)
    {Hs H : Hp} {σ : L2.St} (o : Ok X.K Hs H Hs H σ δ) (ha : H a = some (.ins C dx [])) (na : Hs a = none) {D : Ends}
    (fin : ∀ σ' la Hs' H', (∀ q o, q ≠ a → H q = some o → H' q = some o) → H la = none → Same Hs Hs' → Same Hs' H' → (∀ q, H q ≠ none → Hs q = none → Hs' q = none) → ObjAt X.K Hs' H' ⟨a, la, C, d, d2, []⟩ → D.nx σ' H')
    (hsa : swapsWith va (some (.Attribute (.Name x q1) "ground" q2)) pa.line X.env = pure false := by rfl) (hsb : swapsWith vb (some (.Attribute (.Name x q3) "now" q4)) pb.line X.env = pure false := by rfl) (hsc : swapsWith vc (some (.Attribute (.Name x q5) "former" q6)) pc.line X.env = pure false := by rfl) :
    WB X [st1, .Assign [.Attribute (.Name x q1) "ground" q2] va pa, .Assign [.Attribute (.Name x q3) "now" q4] vb pb, .Assign [.Attribute (.Name x q5) "former" q6] vc pc] D σ H := by
  obtain ⟨i, j1, j2⟩ := hself.at
  obtain ⟨w1, w2, w3⟩ := visB_ok hv
  have self : ∀ q, PE X (.Name x q) (tVar i) := fun q => pe_var (i := i) (by rw [S.n]; exact j1) (by rw [S.hsc]; exact w1) w2 w3
  have cls : Cls X.K C := by rw [S.hK]; exact hk.cls
  refine WB.of (pss_cons ps_W pb_W) (h1 Hs H Hs H σ o _ ⟨fun δ' σ1 Hs1 H1 o1 s1 e => ?_, fun _ _ _ _ _ _ h _ => h.elim, fun _ _ _ _ _ _ h => h.elim, fun _ _ _ _ _ _ h => h.elim⟩)
  obtain rfl : δ' = δ := e
  obtain ⟨_, hs1, hr1⟩ := o1.slot i _ j2
  have hr1' : Rp X.K Hs1 (.a (.ref a)) _ := hr1
  cases hr1'.atom
  have a1 := o1.go.hh _ _ ha
  have n1 : Hs1 a = none := o1.go.no a (by rw [ha]; exact fun z => nomatch z) na
  refine WB.of (pss_cons (ps_fld (self _) pe_W hsa) pb_W) ?_
  refine hA Hs H Hs1 H1 σ1 o1 _ fun z v Hs2 H2 g2 ez r2 => ?_
  subst ez
  have n2 : Hs2 a = none := g2.no a (by rw [a1]; exact fun z => nomatch z) n1
  refine ⟨_, hs1, a, C, dx, _, rfl, g2.hh _ _ a1, cls, by rw [S.hK]; exact hk.n1, by show 0 < 1000; decide, ?_⟩
  obtain ⟨H3, hH3⟩ : ∃ H3, H3 = upd H2 a (.ins C dx [("ground", v)]) := ⟨_, rfl⟩
  have e23 : Same Hs2 H3 := fun q x e => by
    rw [hH3, upd_ne (fun w => by rw [w, n2] at e; cases e)]
    exact g2.sub q x e
  have o3 : Ok X.K Hs2 H3 Hs2 H3 σ1 δ' := (o1.mono g2).reb pl e23
  have a3 : H3 a = some (.ins C dx [("ground", v)]) := by rw [hH3, upd_same]
  suffices key : WB X [.Assign [.Attribute (.Name x q3) "now" q4] vb pb, .Assign [.Attribute (.Name x q5) "former" q6] vc pc] D σ1 H3 by rw [hH3] at key; exact key
  refine WB.of (pss_cons (ps_fld (self _) pe_W hsb) pb_W) ?_
  refine hB Hs2 H3 Hs2 H3 σ1 o3 _ fun z v' Hs4 H4 g4 ez r4 => ?_
  subst ez
  have n4 : Hs4 a = none := g4.no a (by rw [a3]; exact fun z => nomatch z) n2
  refine ⟨_, hs1, a, C, dx, _, rfl, g4.hh _ _ a3, cls, by rw [S.hK]; exact hk.n2, by show 1 < 1000; decide, ?_⟩
  obtain ⟨H5, hH5⟩ : ∃ H5, H5 = upd H4 a (.ins C dx [("ground", v), ("now", v')]) := ⟨_, rfl⟩
  have a5 : H5 a = some (.ins C dx [("ground", v), ("now", v')]) := by rw [hH5, upd_same]
  suffices key : WB X [.Assign [.Attribute (.Name x q5) "former" q6] vc pc] D σ1 H5 by rw [hH5] at key; exact key
  refine WB.of (pss_cons (ps_fld (self _) pe_W hsc) pss_nil) ?_
  refine hC _ σ1 H5 fun la hla => ?_
  have nal : a ≠ la := fun w => by rw [← w, a5] at hla; cases hla
  refine ⟨_, hs1, a, C, dx, _, rfl, by rw [upd_ne nal]; exact a5, cls, by rw [S.hK]; exact hk.n3, by show 2 < 1000; decide, ?_⟩
  have up5 : ∀ q o, q ≠ a → H4 q = some o → H5 q = some o := fun q x e1 e2 => by rw [hH5, upd_ne e1]; exact e2
  have up3 : ∀ q o, q ≠ a → H2 q = some o → H3 q = some o := fun q x e1 e2 => by rw [hH3, upd_ne e1]; exact e2
  have up : ∀ q o, q ≠ a → H q = some o → H5 q = some o := fun q x e1 e2 => up5 q x e1 (g4.hh _ _ (up3 q x e1 (g2.hh _ _ (o1.go.hh _ _ e2))))
  have a7 : (upd (upd H5 la (.lst [])) a (.ins C dx [("ground", v), ("now", v'), ("former", .ref la)])) la = some (.lst []) := by rw [upd_ne nal.symm, upd_same]
  have fine : D.nx σ1 (upd (upd H5 la (.lst [])) a (.ins C dx [("ground", v), ("now", v'), ("former", .ref la)])) := by
    refine fin σ1 la Hs4 _ (fun q x e1 e2 => ?_) ?_ ((s1.trans g2.ss).trans g4.ss) (fun q x e1 => ?_) (fun q h1 h2 => ?_) ⟨dx, v, v', [], upd_same, a7, n4, ?_, Rp.mono g4.ss r2, r4, .nil⟩
    · have := up q x e1 e2
      rw [upd_ne e1, upd_ne (fun w => by rw [w, hla] at this; cases this)]
      exact this
    · cases e : H la with
      | none => rfl
      | some x => rw [up la x nal.symm e] at hla; cases hla
    · have e2 : q ≠ a := fun w => by rw [w, n4] at e1; cases e1
      have := up5 q x e2 (g4.sub _ _ e1)
      rw [upd_ne e2, upd_ne (fun w => by rw [w, hla] at this; cases this)]
      exact this
    · have k1 := o1.go.no q h1 h2
      have k2 := g2.no q (same_ne o1.go.hh h1) k1
      refine g4.no q ?_ k2
      by_cases e : q = a
      · rw [e, a3]; exact fun z => nomatch z
      · rw [hH3, upd_ne e]
        exact same_ne g2.hh (same_ne o1.go.hh h1)
    · cases e : Hs4 la with
      | none => rfl
      | some x => rw [up5 la x nal.symm (g4.sub _ _ e)] at hla; cases hla
  exact fine
end
end DL

/-! DL40: lists of unlike lengths are unlike, whatever they hold. -/
namespace DL
open PySem PySem.Spec PyProof.Rows L2
section
variable {X : Cx}
theorem op_eqLen (hu : X.A.units < cLine) : OpR X (compareOp .Eq) (fun x y H Q => ∃ (a b : Addr) (xs ys : List V), x = .ref a ∧ y = .ref b ∧ SqL X.K H a xs ∧ SqL X.K H b ys ∧ xs.length ≠ ys.length ∧ Q (.bl false) H) := by
  intro pins s σ H x y v u Q I rx ry h
  obtain ⟨a, b, xs, ys, rfl, rfl, ha, hb, hn, q⟩ := h
  cases (show v = Value.ref a from rx)
  cases (show u = Value.ref b from ry)
  obtain ⟨us, r1, p1, _⟩ := I.list ha
  obtain ⟨ws, r2, p2, _⟩ := I.list hb
  have hsz : (us.toArray.size != ws.toArray.size) = true := by
    rw [List.size_toArray, List.size_toArray, ← r1.length, ← r2.length]
    simpa using hn
  exact SeqAt.RcAt.lists_lengths p1.isList p2.isList hsz hu _ _ _ _ ⟨.bl false, H, I, rfl, q⟩
end
section
variable {M : Md} {X : Cx} {k : Nat} {N : List Str} {sc cs : Scope} {δ : Sg} {pos : Pos} {a b : Expr}
theorem dt_eqLen (S : Sc M X k N sc cs) {Φ : Bool → Prop} (hm : behindInMarks .Eq b = false) (h : DV X a δ fun x => DV X b δ fun y => ∃ xs ys : List Da, x = .lst xs ∧ y = .lst ys ∧ xs.length ≠ ys.length ∧ Φ false) : DT X (.Compare a [.Eq] [b] pos) δ Φ := .mk fun Bs B Hs H σ o Q q =>
  WT.of (pt_cmpR rW_ok pe_W pe_W hm) (h Bs B Hs H σ o _ fun x v Hs1 H1 g1 hb r1 => hb Bs B Hs1 H1 σ (o.mono g1) _ fun y w Hs2 H2 g2 ⟨xs, ys, ex, ey, hn, p⟩ r2 => by
    subst ex ey
    obtain ⟨a1, vs, rfl, h1, q1⟩ := (Rp.mono g2.hh r1).lst_inv
    obtain ⟨b1, ws, rfl, h2, q2⟩ := r2.lst_inv
    exact rW_of (op_eqLen S.room.units0) ⟨a1, b1, vs, ws, rfl, rfl, .of h1, .of h2, by rw [← q1.len, ← q2.len]; exact hn, false, rfl, q false Hs2 H2 (g1.trans g2) p⟩)
end
end DL

/-! DL41: functions that change an object they are given; tests with such calls; not in a list of anything. -/
namespace DL
open PySem PySem.Spec PyProof.Rows L2
structure CalF {α : Type} (M : Md) (k : Nat) (x : Str) (ms : List Bool) (args : α → List Da) (st : α → HSt) (pre : α → Prop) (post : α → Da → HSt → Prop) : Prop where
  ex : ∃ f fd ps, FnOk M.P M.w M.K M.mg M.base CX0 k f fd ps (SpM M.K ms args st pre post) ∧ M.mg x = some (.ref f) ∧ PySem.W.keepIn M.K (.ref f) = true ∧ Binds M.K fd ps []
theorem CalF.mono {α : Type} {M : Md} {k j : Nat} {x : Str} {ms : List Bool} {args : α → List Da} {st : α → HSt} {pre : α → Prop} {post : α → Da → HSt → Prop} (c : CalF M k x ms args st pre post) (h : k ≤ j) : CalF M j x ms args st pre post := by
  obtain ⟨f, fd, ps, F, h1, h2, h3⟩ := c.ex
  exact ⟨f, fd, ps, F.mono h, h1, h2, h3⟩
theorem calf_mk {α : Type} {M : Md} {k : Nat} {x : Str} {f : Addr} {fd : FuncData} {ps : List Str} {ms : List Bool} {args : α → List Da} {st : α → HSt} {pre : α → Prop} {post : α → Da → HSt → Prop} (F : FnOk M.P M.w M.K M.mg M.base CX0 k f fd ps (SpM M.K ms args st pre post)) (h1 : M.mg x = some (.ref f))
    (h2 : PySem.W.keepIn M.K (.ref f) = true) (h3 : Binds M.K fd ps []) : CalF M k x ms args st pre post := ⟨f, fd, ps, F, h1, h2, h3⟩
/-- a test, a value, the object changed meanwhile -/
structure DTm (X : Cx) (s0 : HSt) (e : Expr) (δ : Sg) (Φ : Bool → Sg → Prop) : Prop where
  run : ∀ Es E Bs B Hs H σ, Ok X.K Bs B Hs H σ δ → BaseM s0 Es E Bs B → ∀ Q : Bool → Hp → Prop, (∀ c δ' Bs' B' Hs' H', Ok X.K Bs' B' Hs' H' σ δ' → BaseM s0 Es E Bs' B' → Same Hs Hs' → Φ c δ' → Q c H') → WT X e σ H Q
structure DMm (X : Cx) (s0 : HSt) (e : Expr) (δ : Sg) (Φ : Da → Sg → Prop) : Prop where
  run : ∀ Es E Bs B Hs H σ, Ok X.K Bs B Hs H σ δ → BaseM s0 Es E Bs B → ∀ Q : VK, (∀ d v δ' Bs' B' Hs' H', Ok X.K Bs' B' Hs' H' σ δ' → BaseM s0 Es E Bs' B' → Same Hs Hs' → Φ d δ' → Rp X.K Hs' d v → Q v H') → WE X e σ H Q
section
variable {M : Md} {X : Cx} {k : Nat} {N : List Str} {sc cs : Scope} {δ : Sg} {x y f : Str} {pos p2 p3 p4 : Pos} {e a b c : Expr} {es : List Expr} {s s0 : HSt} {sts s1 s2 : List Stmt} {nx : Sg → Prop} {rt : Sg → Da → Prop}
theorem dtm_t {Φ : Bool → Sg → Prop} (h : DT X e δ fun c => Φ c δ) : DTm X s0 e δ Φ := ⟨fun Es E Bs B Hs H σ o bm Q q => h Bs B Hs H σ o Q fun c Hs' H' g p => q c δ Bs B Hs' H' (o.mono g) bm g.ss p⟩
theorem dtm_or {Φ : Bool → Sg → Prop} (h : DTm X s0 a δ fun c δ1 => (c = true → Φ true δ1) ∧ (c = false → DTm X s0 b δ1 Φ)) : DTm X s0 (.BoolOp .Or [a, b] pos) δ Φ := ⟨fun Es E Bs B Hs H σ o bm Q q =>
  WT.of ((pw_or pt_W (pw_or1 pt_W)).pt) (h.run Es E Bs B Hs H σ o bm _ fun c δ1 Bs1 B1 Hs1 H1 o1 b1 s1 p => by
    cases c with
    | true => exact iteT (q true δ1 Bs1 B1 Hs1 H1 o1 b1 s1 (p.1 rfl))
    | false => exact iteF ((p.2 rfl).run Es E Bs1 B1 Hs1 H1 σ o1 b1 Q fun c δ2 Bs2 B2 Hs2 H2 o2 b2 s2 p2 => q c δ2 Bs2 B2 Hs2 H2 o2 b2 (s1.trans s2) p2))⟩
theorem dtm_cmp (S : Sc M X k N sc cs) {Φ : Bool → Sg → Prop} {op : CmpOp} (hm : behindInMarks op b = false) (h : DMm X s0 a δ fun x δ1 => DV X b δ1 fun y => CmpW (fun c => Φ c δ1) op x y) : DTm X s0 (.Compare a [op] [b] pos) δ Φ := ⟨fun Es E Bs B Hs H σ o bm Q q =>
  WT.of (pt_cmpR rW_ok pe_W pe_W hm) (h.run Es E Bs B Hs H σ o bm _ fun x v δ1 Bs1 B1 Hs1 H1 o1 b1 s1 hb r1 => hb Bs1 B1 Hs1 H1 σ o1 _ fun y w Hs2 H2 g2 hc r2 =>
    cmp_run S hc (Rp.mono (o1.sub.trans g2.hh) r1) r2 fun c p => ⟨c, rfl, q c δ1 Bs1 B1 Hs2 H2 (o1.mono g2) b1 (s1.trans g2.ss) p⟩)⟩
theorem dbm_ifm (h : DTm X s0 c δ fun z δ1 => (z = true → DBm X s0 s1 δ1 (fun δ' => DBm X s0 sts δ' nx rt) rt) ∧ (z = false → DBm X s0 s2 δ1 (fun δ' => DBm X s0 sts δ' nx rt) rt)) : DBm X s0 (.If c s1 s2 pos :: sts) δ nx rt := ⟨fun Es E Bs B Hs H σ o b D f => by
  refine WB.of (pss_cons ps_W pb_W) (WS.of (ps_if pt_W pb_W pb_W) (h.run Es E Bs B Hs H σ o b _ fun z δ1 Bs1 B1 Hs' H' o1 b1 sm p => ?_))
  have fm : FitsM X.K s0 Es E Hs' (fun δ' => DBm X s0 sts δ' nx rt) rt { D with nx := WB X sts D } := ⟨fun δ1 σ1 Bs1 B1 Hs1 H1 o1 b1 s1 h1 => h1.run Es E Bs1 B1 Hs1 H1 σ1 o1 b1 D (f.frm (sm.trans s1)), (f.frm sm).rt⟩
  cases z with
  | true => exact iteT ((p.1 rfl).run Es E Bs1 B1 Hs' H' σ o1 b1 _ fm)
  | false => exact iteF ((p.2 rfl).run Es E Bs1 B1 Hs' H' σ o1 b1 _ fm)⟩
/-- f(x, ..): the object at x changes -/
theorem dmm_fn {α : Type} {ms : List Bool} {args : α → List Da} {st : α → HSt} {pre : α → Prop} {post : α → Da → HSt → Prop} {Φ : Da → Sg → Prop} (S : Sc M X k N sc cs) (cl : CalF M k f ms args st pre post) (hs : Gt N δ x (.hb s)) (hv : visB sc x = true) (hg : glB sc f = true)
    (h0 : s.a = s0.a) (h0' : s.la = s0.la) (hp : ∀ i : Nat, N[i]? = some x → plainM i δ = true)
    (h : DA X ms (e :: es) δ fun ds => ∃ z, ds = args z ∧ st z = s ∧ pre z ∧ ∀ d s', s'.a = s.a → s'.la = s.la → s'.C = s.C → post z d s' → ∃ δ', Ss N δ x (some (.hb s')) δ' ∧ Φ d δ')
    (he : starEach (.Name x p4 :: e :: es) X.env = (false, eval (.Name x p4) X.env) :: starEach (e :: es) X.env := by rfl) (hpl : (backTo pos (starEach (e :: es) X.env)).any (·.1) = false := by rfl) :
    DMm X s0 (.Call (.Name f p2) (.Name x p4 :: e :: es) [] pos) δ Φ := ⟨fun Es E Bs B Hs H σ ok bm Q q => by
  obtain ⟨g, fd, ps, F, h1, h2, h3⟩ := cl.ex
  obtain ⟨g1, g2, g3⟩ := glB_ok hg
  obtain ⟨i, j1, j2⟩ := hs.at
  obtain ⟨v, k3, rfl, hO⟩ := ok.slot i _ j2
  obtain ⟨w1, w2, w3⟩ := visB_ok hv
  have F' : FnOk X.prog X.w X.K X.mg X.base CX0 k g fd ps (SpM X.K ms args st pre post) := by rw [S.hP, S.hw, S.hK, S.hmg, S.hb]; exact F
  refine WE.of (pe_call (dvs := []) (ds := []) (E := E0) F' S.room (by show X.env.scope.names.lookup f = _; rw [S.hsc]; exact g1) (by rw [S.hmg]; exact h1) (by rw [S.hK]; exact h2) (by rw [S.hK]; exact h3) .nil pass0 (pa_cons (pe_var (i := i) (by rw [S.n]; exact j1) (by rw [S.hsc]; exact w1) w2 w3) pa_W he) g2 he hpl) ⟨_, k3, ?_⟩
  refine h Bs B Hs H σ ok _ fun ds ws Hs1 H1 gg ⟨z, ea, ez, pa, kk⟩ r => ?_
  subst ea ez
  rw [List.append_nil]
  have o1 := ok.mono gg
  obtain ⟨_, h4, _, hO1⟩ := o1.slot i _ j2
  refine ⟨z, Hs1, ws, rfl, gg.sub, hO1.up o1.go.hh, r, pa, fun d v s' Hs' H' gm hO' e1 e2 e3 p rd => ?_⟩
  obtain ⟨δ', hδ, hD⟩ := kk d s' e1 e2 e3 p
  obtain rfl := ss_set S.nd j1 hδ
  obtain ⟨B', o2, bm2⟩ := o1.mutH j2 (hp i j1) gm hO' e1 e2
  exact q d v _ Bs B' Hs' H' o2 (bm.trans (bm2.addr h0.symm h0'.symm)) (gg.ss.trans gm.bm.ss) hD rd⟩
/-- x not in a list of plain data -/
theorem op_notInDL (hu : X.A.units + 64 < cLine) : OpR X (compareOp .NotIn) (fun x y H Q => ∃ d ds, Dp X.K H x d ∧ Dp X.K H y (.list ds) ∧ SeqAt.shaped d = true ∧ SeqAt.shaped (.list ds) = true ∧ PyData.depthAll ds ≤ 60 ∧ Q (.bl (!ds.any fun z => PyData.eqv z d)) H) := by
  intro pins s σ H x y v u Q I rx ry h
  obtain ⟨d, ds, hd, he, sd, se, hl, q⟩ := h
  obtain ⟨as, r1⟩ := Dp.reads I d x v hd rx
  obtain ⟨bs, r2⟩ := Dp.reads I (.list ds) y u he ry
  exact SeqAt.notIn_list_reads r2 r1 (SeqAt.canLay_of_shaped se) (SeqAt.canLay_of_shaped sd) (by have := Nat.min_le_left (PyData.depthAll ds) d.depth; omega) ⟨.bl _, H, I, rfl, q⟩
theorem dt_notInL (S : Sc M X k N sc cs) {Φ : Bool → Prop} {n m : Nat} (hm : behindInMarks .NotIn b = false) (h : DE X a δ fun x => DE X b δ fun y => ∃ l, y = .lst l ∧ Shp n x ∧ Shp m (.lst l) ∧ n ≤ 58 ∧ m ≤ 58 ∧ Φ (!(l.map Da.py).any fun z => PyData.eqv z x.py)) : DT X (.Compare a [.NotIn] [b] pos) δ Φ := .mk fun Bs B Hs H σ o Q q =>
  WT.of (pt_cmpR (op_notInDL S.room.units) pe_W pe_W hm) (h Bs B Hs H σ o _ fun x v Hs1 H1 g1 hb r1 => hb Bs B Hs1 H1 σ (o.mono g1) _ fun y w Hs2 H2 g2 ⟨l, ey, s1, s2, n1, n2, p⟩ r2 => by
    subst ey
    have g := g1.trans g2
    have e1 := (Rp.mono (g2.ss.trans g2.sub) r1).dp s1.pl
    have e2 := (Rp.mono g2.sub r2).dp s2.pl
    have sh := s2.shaped (by omega)
    rw [Da.py] at e2 sh
    refine ⟨_, _, e1, e2, s1.shaped (by omega), sh, ?_, _, rfl, q _ Hs2 H2 g p⟩
    have hd := s2.dep
    rw [Da.py, PyData.depth] at hd
    omega)
end
end DL

/-! DL42: slots forgotten; two ways that meet again. -/
namespace DL
open PySem PySem.Spec PyProof.Rows L2
inductive WkS : Sg → Sg → Prop
  | nil : WkS [] []
  | keep {s : Option SD} {δ δ0 : Sg} : WkS δ δ0 → WkS (s :: δ) (s :: δ0)
  | drop {s : Option SD} {δ δ0 : Sg} : WkS δ δ0 → WkS (s :: δ) (none :: δ0)
theorem WkS.len : ∀ {δ δ0 : Sg}, WkS δ δ0 → δ0.length = δ.length
  | _, _, .nil => rfl
  | _, _, .keep h => congrArg (· + 1) h.len
  | _, _, .drop h => congrArg (· + 1) h.len
theorem WkS.get : ∀ {δ δ0 : Sg}, WkS δ δ0 → ∀ (i : Nat) (s : SD), δ0[i]? = some (some s) → δ[i]? = some (some s)
  | _, _, .nil, _, _, e => e
  | _, _, .keep _, 0, _, e => e
  | _, _, .keep h, i + 1, s, e => h.get i s (by simpa using e)
  | _, _, .drop _, 0, _, e => by simp at e
  | _, _, .drop h, i + 1, s, e => h.get i s (by simpa using e)
theorem Ok.weak {K : PySem.W.Frag} {Bs B Hs H : Hp} {σ : L2.St} {δ δ0 : Sg} (o : Ok K Bs B Hs H σ δ) (w : WkS δ δ0) : Ok K Bs B Hs H σ δ0 :=
  ⟨o.go, fun i s e => o.slot i s (w.get i s e), by rw [o.len, w.len], fun i s p e q e2 => o.fr i s p (w.get i s e) q e2, fun i j s t p e1 e2 q1 q2 e3 e4 => o.ap i j s t p (w.get i s e1) (w.get j t e2) q1 q2 e3 e4⟩
section
variable {X : Cx} {δ δ0 : Sg} {sts s1 s2 : List Stmt} {nx nx' bk ct : Sg → Prop} {rt : Da → Prop} {rm : Sg → Da → Prop} {s0 : HSt} {c : Expr} {pos : Pos}
theorem db_weak (w : WkS δ δ0) (h : DB X sts δ0 nx rt bk ct) : DB X sts δ nx rt bk ct := .mk fun Bs B Hs H σ o D f => h Bs B Hs H σ (o.weak w) D f
theorem dbm_weak (w : WkS δ δ0) (h : DBm X s0 sts δ0 nx rm) : DBm X s0 sts δ nx rm := ⟨fun Es E Bs B Hs H σ o b D f => h.run Es E Bs B Hs H σ (o.weak w) b D f⟩
theorem DBm.imp (h : DBm X s0 sts δ nx rm) (i : ∀ δ', nx δ' → nx' δ') : DBm X s0 sts δ nx' rm := ⟨fun Es E Bs B Hs H σ o b D f => h.run Es E Bs B Hs H σ o b D ⟨fun δ σ Bs B Hs H o b s p => f.nx δ σ Bs B Hs H o b s (i δ p), f.rt⟩⟩
/-- two ways that meet at J -/
theorem dbm_ifJ (J : Sg → Prop) (h : DT X c δ fun z => (z = true → DBm X s0 s1 δ J rm) ∧ (z = false → DBm X s0 s2 δ J rm)) (key : ∀ δ', J δ' → DBm X s0 sts δ' nx rm) : DBm X s0 (.If c s1 s2 pos :: sts) δ nx rm :=
  dbm_if (h.imp fun z p => ⟨fun e => (p.1 e).imp key, fun e => (p.2 e).imp key⟩)
end
end DL

open PySem PySem.Spec PyProof.Rows L2 DL
local macro_rules | `(tactic| walk_at "gt") => `(tactic| (repeat (first | with_reducible exact Gt.z | with_reducible apply Gt.s)))
local macro_rules | `(tactic| walk_at "ss") => `(tactic| (repeat (first | with_reducible exact Ss.z | with_reducible apply Ss.s)))
local macro_rules | `(tactic| walk_at "wp") => `(tactic| first | exact Wp.nil | (apply Wp.cons; (· walk_at "wp"); (· walk_at "ss")))
local macro_rules | `(tactic| walk_at "dk") => `(tactic| decide +kernel)
local macro_rules | `(tactic| walk_at "mk") => `(tactic| first | exact nomark _ | with_unfolding_all rfl)
local macro_rules | `(tactic| walk_at "stE") => `(tactic| first
  | (show DM _ _ (.Name _ _) _ _; first
      | refine de_name ‹Sc _ _ _ _ _ _› (by walk_at "gt") (by walk_at "dk") ?_
      | refine dv_nameO ‹Sc _ _ _ _ _ _› (by walk_at "gt") rfl (by walk_at "dk") ?_
      | refine dv_nameB ‹Sc _ _ _ _ _ _› (by walk_at "gt") (by walk_at "dk") ?_
      | refine de_ty ‹Sc _ _ _ _ _ _› (x := "int") (T := "int") (by assumption) (by walk_at "dk") (by decide +kernel) ?_
      | refine de_ty ‹Sc _ _ _ _ _ _› (x := "bool") (T := "bool") (by assumption) (by walk_at "dk") (by decide +kernel) ?_
      | refine de_ty ‹Sc _ _ _ _ _ _› (x := "str") (T := "str") (by assumption) (by walk_at "dk") (by decide +kernel) ?_
      | refine de_ty ‹Sc _ _ _ _ _ _› (x := "tuple") (T := "tuple") (by assumption) (by walk_at "dk") (by decide +kernel) ?_
      | refine de_ty ‹Sc _ _ _ _ _ _› (x := "list") (T := "list") (by assumption) (by walk_at "dk") (by decide +kernel) ?_
      | refine de_globS ‹Sc _ _ _ _ _ _› (by assumption) (by walk_at "dk") ?_
      | refine de_globI ‹Sc _ _ _ _ _ _› (by assumption) (by walk_at "dk") ?_)
  | (show DM _ _ (.Constant _ _ _) _ _; first | refine de_int ?_ | refine de_str ?_ | refine de_bl ?_ | refine de_non ?_)
  | (show DM _ _ (.BinOp _ _ _ _) _ _; first | refine de_add ?_ | refine de_sub ?_ | refine de_mulA ?_ | refine de_mod ?_ | refine de_fdiv ?_ | refine de_pow ?_)
  | (show DM _ _ (.Subscript _ (.Tuple _ _ _) _) _ _; refine de_ixA ‹Sc _ _ _ _ _ _› ?_)
  | (show DM _ _ (.Subscript _ _ _) _ _; first | refine de_rev ?_ | refine de_slice ?_ | refine de_ixO ‹Sc _ _ _ _ _ _› (by walk_at "gt") (by walk_at "dk") ?_ | refine de_ix ‹Sc _ _ _ _ _ _› ?_)
  | (show DM _ _ (.Call (.Name _ _) _ _ _) _ _; first | refine de_call ‹Sc _ _ _ _ _ _› (by assumption) (by walk_at "dk") ?_ | walk_at "bi")
  | (show DM _ _ (.Compare _ _ _ _) _ _; first | refine de_cmp ‹Sc _ _ _ _ _ _› (by walk_at "mk") ?_ | refine de_chain ‹Sc _ _ _ _ _ _› ?_)
  | refine de_ifE ?_ | refine de_tup ?_ | refine de_lst ?_ | refine de_neg ?_)
local macro_rules | `(tactic| walk_at "bi") => `(tactic| first
  | refine de_lenO ‹Sc _ _ _ _ _ _› (f := "len") (by assumption) PySem.boot_len (by walk_at "dk") (by walk_at "gt") (by walk_at "dk") ?_
  | refine de_callB ‹Sc _ _ _ _ _ _› (x := "len") (by assumption) PySem.boot_len (by walk_at "dk") ?_
  | refine de_callB ‹Sc _ _ _ _ _ _› (x := "max") (by assumption) PyProof.Rows.boot_max (by walk_at "dk") ?_
  | refine de_callB ‹Sc _ _ _ _ _ _› (x := "min") (by assumption) PyProof.Rows.boot_min (by walk_at "dk") ?_
  | refine de_callB ‹Sc _ _ _ _ _ _› (x := "isinstance") (by assumption) (by decide +kernel : bootBuiltins "isinstance" = some (.builtin "isinstance")) (by walk_at "dk") ?_
  | refine de_callB ‹Sc _ _ _ _ _ _› (x := "sorted") (by assumption) (by decide +kernel : bootBuiltins "sorted" = some (.builtin "sorted")) (by walk_at "dk") ?_
  | refine de_callB ‹Sc _ _ _ _ _ _› (x := "abs") (by assumption) (by decide +kernel : bootBuiltins "abs" = some (.builtin "abs")) (by walk_at "dk") ?_
  | refine de_callB ‹Sc _ _ _ _ _ _› (x := "all") (by assumption) (by decide +kernel : bootBuiltins "all" = some (.builtin "all")) (by walk_at "dk") ?_
  | refine de_callB ‹Sc _ _ _ _ _ _› (x := "any") (by assumption) (by decide +kernel : bootBuiltins "any" = some (.builtin "any")) (by walk_at "dk") ?_
  | refine de_callTy ‹Sc _ _ _ _ _ _› (x := "tuple") (by assumption) (by decide +kernel : bootBuiltins "tuple" = some (.type "tuple")) (by walk_at "dk") ?_
  | refine de_callTy ‹Sc _ _ _ _ _ _› (x := "list") (by assumption) (by decide +kernel : bootBuiltins "list" = some (.type "list")) (by walk_at "dk") ?_
  | refine de_callTy ‹Sc _ _ _ _ _ _› (x := "int") (by assumption) (by decide +kernel : bootBuiltins "int" = some (.type "int")) (by walk_at "dk") ?_)
local macro_rules | `(tactic| walk_at "stS") => `(tactic| first
  | walk_at "par"
  | (refine ds_append ‹Sc _ _ _ _ _ _› (by walk_at "gt") (by walk_at "dk") ?_ ?_; rotate_left)
  | refine ds_ret ?_ | refine ds_if ?_ | refine ds_set ‹Sc _ _ _ _ _ _› ?_ (by walk_at "dk")
  | refine ds_retN ?_ | refine ds_break ?_ | refine ds_cont ?_)
local macro_rules | `(tactic| walk_at "st") => `(tactic| first
  | (show DM _ _ _ _ _; walk_at "stE")
  | (show DAt _ _ _ _; first | refine dat_nil ?_ | refine dat_cons ?_)
  | (show DA _ _ _ _ _; first | refine da_nil ?_ | refine da_cons ?_)
  | (show DB _ _ _ _ _ _ _; first | refine db_cons ?_ | refine db_nil ?_)
  | (show DS _ _ _ _ _ _ _; walk_at "stS")
  | (show DT _ _ _ _; first | refine dt_cmp ‹Sc _ _ _ _ _ _› (by walk_at "mk") ?_ | refine dt_not ?_ | refine dt_chain ‹Sc _ _ _ _ _ _› ?_ | refine dt_chain3 ‹Sc _ _ _ _ _ _› ?_ | refine dt_w (e := .BoolOp _ _ _) ?_)
  | (show DW _ _ _ _; first | refine dw_and ?_ | refine dw_or ?_ | refine dw_and1 ?_ | refine dw_or1 ?_)
  | (show SubW _ _ _; first | refine .int ?_ | refine .bi ?_ | refine .ib ?_)
  | (show AddW _ _ _; first | refine .int ?_ | refine .bi ?_ | (refine .str ?_ ?_; rotate_left) | (refine .lst ?_ ?_; rotate_left) | (refine .tup ?_ ?_; rotate_left))
  | (show IntW _ _ _ _ _; first | refine .mk True.intro ?_ | (refine .mk (.inl (.inr (by decide))) ?_) | (refine .mk (.inl (.inl (by decide))) ?_) | (refine .mk (by decide) ?_) | (refine .mk ⟨by decide, by decide, by decide⟩ ?_) | (refine .mk (.inr (by unfold CMulW; decide +kernel)) ?_) | (refine .mk (by decide +kernel) ?_) | (refine .mk (by omega) ?_) | (refine .mk ?_ ?_; rotate_left))
  | (show MulW _ _ _; first | refine .ib ?_ | (refine .int (.inl (.inr (by decide))) ?_) | (refine .int (.inl (.inl (by decide))) ?_) | (refine .int (.inl (.inl ⟨by decide, by decide⟩)) ?_) | (refine .int (.inr (by unfold CMulW; decide +kernel)) ?_) | (refine .int ?_ ?_; rotate_left))
  | refine dp_none ?_ | refine dp_some ?_ | refine spT ?_ | refine spF ?_)
local macro_rules | `(tactic| walk_at "go") => `(tactic| repeat walk_at "st")
local macro_rules | `(tactic| walk_at "par") => `(tactic| refine ds_par ‹Sc _ _ _ _ _ _› ?_ (by decide) (by walk_at "dk") (by walk_at "dk") (by intro env h; cases env; cases h; rfl) (by walk_at "dk") (by walk_at "dk"))

namespace My
def topS (i : Nat) : Stmt := PySem.Challenge.pw_liftcord_k42_whole_paid_and_still_left.main.body.getD i (.Pass ⟨0, 0, 0, 0⟩)
abbrev s_is_between : Stmt := topS 6
abbrev n_is_between : List Str := ["thing", "low", "high"]
theorem S_is_between : FnScope n_is_between ["thing", "low", "high"] (defScope s_is_between) := ⟨rfl, rfl, rfl, by decide +kernel, rfl, by decide +kernel, by decide +kernel⟩
abbrev s_is_post : Stmt := topS 7
abbrev n_is_post : List Str := ["thing"]
theorem S_is_post : FnScope n_is_post ["thing"] (defScope s_is_post) := ⟨rfl, rfl, rfl, by decide +kernel, rfl, by decide +kernel, by decide +kernel⟩
abbrev s_is_floor : Stmt := topS 8
abbrev n_is_floor : List Str := ["thing", "one", "other"]
theorem S_is_floor : FnScope n_is_floor ["thing"] (defScope s_is_floor) := ⟨rfl, rfl, rfl, by decide +kernel, rfl, by decide +kernel, by decide +kernel⟩
abbrev s_costs_of : Stmt := topS 9
abbrev n_costs_of : List Str := ["floor", "found", "letter", "cost"]
theorem S_costs_of : FnScope n_costs_of ["floor"] (defScope s_costs_of) := ⟨rfl, rfl, rfl, by decide +kernel, rfl, by decide +kernel, by decide +kernel⟩
abbrev s_undoes : Stmt := topS 10
abbrev n_undoes : List Str := ["turn"]
theorem S_undoes : FnScope n_undoes ["turn"] (defScope s_undoes) := ⟨rfl, rfl, rfl, by decide +kernel, rfl, by decide +kernel, by decide +kernel⟩
abbrev s_are_turns : Stmt := topS 11
abbrev n_are_turns : List Str := ["floor", "thing", "most", "sign"]
theorem S_are_turns : FnScope n_are_turns ["floor", "thing", "most"] (defScope s_are_turns) := ⟨rfl, rfl, rfl, by decide +kernel, rfl, by decide +kernel, by decide +kernel⟩
abbrev s_is_row : Stmt := topS 12
abbrev n_is_row : List Str := ["floor", "thing"]
theorem S_is_row : FnScope n_is_row ["floor", "thing"] (defScope s_is_row) := ⟨rfl, rfl, rfl, by decide +kernel, rfl, by decide +kernel, by decide +kernel⟩
abbrev s_tight : Stmt := topS 13
abbrev n_tight : List Str := ["row", "found", "turn"]
theorem S_tight : FnScope n_tight ["row"] (defScope s_tight) := ⟨rfl, rfl, rfl, by decide +kernel, rfl, by decide +kernel, by decide +kernel⟩
abbrev s_back : Stmt := topS 14
abbrev n_back : List Str := ["row", "turn"]
theorem S_back : FnScope n_back ["row"] (defScope s_back) := ⟨rfl, rfl, rfl, by decide +kernel, rfl, by decide +kernel, by decide +kernel⟩
abbrev s_plus : Stmt := topS 16
abbrev n_plus : List Str := ["one", "other"]
theorem S_plus : FnScope n_plus ["one", "other"] (defScope s_plus) := ⟨rfl, rfl, rfl, by decide +kernel, rfl, by decide +kernel, by decide +kernel⟩
abbrev s_ways : Stmt := topS 17
abbrev n_ways : List Str := ["row", "costs", "table", "begin", "long", "found", "other", "inner", "outer"]
theorem S_ways : FnScope n_ways ["row", "costs", "table", "begin", "long"] (defScope s_ways) := ⟨rfl, rfl, rfl, by decide +kernel, rfl, by decide +kernel, by decide +kernel⟩
abbrev s_best_table : Stmt := topS 18
abbrev n_best_table : List Str := ["floor", "row", "costs", "many", "found", "long", "begin", "some", "cost", "other"]
theorem S_best_table : FnScope n_best_table ["floor", "row"] (defScope s_best_table) := ⟨rfl, rfl, rfl, by decide +kernel, rfl, by decide +kernel, by decide +kernel⟩
abbrev s_least : Stmt := topS 19
abbrev n_least : List Str := ["floor", "row"]
theorem S_least : FnScope n_least ["floor", "row"] (defScope s_least) := ⟨rfl, rfl, rfl, by decide +kernel, rfl, by decide +kernel, by decide +kernel⟩
abbrev s_nesting : Stmt := topS 20
abbrev n_nesting : List Str := ["floor", "row", "table", "costs", "found", "left", "begin", "long", "good", "cost", "other"]
theorem S_nesting : FnScope n_nesting ["floor", "row"] (defScope s_nesting) := ⟨rfl, rfl, rfl, by decide +kernel, rfl, by decide +kernel, by decide +kernel⟩
abbrev s_between : Stmt := topS 22
abbrev n_between : List Str := ["floor", "row", "other"]
theorem S_between : FnScope n_between ["floor", "row", "other"] (defScope s_between) := ⟨rfl, rfl, rfl, by decide +kernel, rfl, by decide +kernel, by decide +kernel⟩
abbrev s_without : Stmt := topS 23
abbrev n_without : List Str := ["row", "places", "found", "place"]
theorem S_without : FnScope n_without ["row", "places"] (defScope s_without) := ⟨rfl, rfl, rfl, by decide +kernel, rfl, by decide +kernel, by decide +kernel⟩
abbrev s_liftings : Stmt := topS 24
abbrev n_liftings : List Str := ["floor", "row", "other", "whole", "pairs", "held", "free", "taken", "put", "found", "pair", "place", "one"]
theorem S_liftings : FnScope n_liftings ["floor", "row", "other"] (defScope s_liftings) := ⟨rfl, rfl, rfl, by decide +kernel, rfl, by decide +kernel, by decide +kernel⟩
abbrev s_is_name : Stmt := topS 43
abbrev n_is_name : List Str := ["thing", "sign"]
theorem S_is_name : FnScope n_is_name ["thing"] (defScope s_is_name) := ⟨rfl, rfl, rfl, by decide +kernel, rfl, by decide +kernel, by decide +kernel⟩
abbrev s_Hall___init__ : Stmt := inClass (topS 44) 0
abbrev n_Hall___init__ : List Str := ["self", "floor"]
theorem S_Hall___init__ : FnScope n_Hall___init__ ["self", "floor"] (defScope s_Hall___init__) := ⟨rfl, rfl, rfl, by decide +kernel, rfl, by decide +kernel, by decide +kernel⟩
abbrev s_Hall___len__ : Stmt := inClass (topS 44) 1
abbrev n_Hall___len__ : List Str := ["self"]
theorem S_Hall___len__ : FnScope n_Hall___len__ ["self"] (defScope s_Hall___len__) := ⟨rfl, rfl, rfl, by decide +kernel, rfl, by decide +kernel, by decide +kernel⟩
abbrev s_Hall_keep : Stmt := inClass (topS 44) 3
abbrev n_Hall_keep : List Str := ["self", "name", "row", "cost", "held", "one", "some"]
theorem S_Hall_keep : FnScope n_Hall_keep ["self", "name", "row", "cost"] (defScope s_Hall_keep) := ⟨rfl, rfl, rfl, by decide +kernel, rfl, by decide +kernel, by decide +kernel⟩
abbrev s_Hall_cord : Stmt := inClass (topS 44) 4
abbrev n_Hall_cord : List Str := ["self", "name"]
theorem S_Hall_cord : FnScope n_Hall_cord ["self", "name"] (defScope s_Hall_cord) := ⟨rfl, rfl, rfl, by decide +kernel, rfl, by decide +kernel, by decide +kernel⟩
abbrev s_Hall_short : Stmt := inClass (topS 44) 5
abbrev n_Hall_short : List Str := ["self", "row", "found"]
theorem S_Hall_short : FnScope n_Hall_short ["self", "row"] (defScope s_Hall_short) := ⟨rfl, rfl, rfl, by decide +kernel, rfl, by decide +kernel, by decide +kernel⟩
abbrev s_Hall_price : Stmt := inClass (topS 44) 6
abbrev n_Hall_price : List Str := ["self", "turn", "found"]
theorem S_Hall_price : FnScope n_Hall_price ["self", "turn"] (defScope s_Hall_price) := ⟨rfl, rfl, rfl, by decide +kernel, rfl, by decide +kernel, by decide +kernel⟩
abbrev s_Hall_need_row : Stmt := inClass (topS 44) 7
abbrev n_Hall_need_row : List Str := ["self", "row"]
theorem S_Hall_need_row : FnScope n_Hall_need_row ["self", "row"] (defScope s_Hall_need_row) := ⟨rfl, rfl, rfl, by decide +kernel, rfl, by decide +kernel, by decide +kernel⟩
abbrev s_Hall_lay : Stmt := inClass (topS 44) 8
abbrev n_Hall_lay : List Str := ["self", "name", "row"]
theorem S_Hall_lay : FnScope n_Hall_lay ["self", "name", "row"] (defScope s_Hall_lay) := ⟨rfl, rfl, rfl, by decide +kernel, rfl, by decide +kernel, by decide +kernel⟩
abbrev s_Hall_lay_on : Stmt := inClass (topS 44) 10
abbrev n_Hall_lay_on : List Str := ["self", "name", "row", "here"]
theorem S_Hall_lay_on : FnScope n_Hall_lay_on ["self", "name", "row"] (defScope s_Hall_lay_on) := ⟨rfl, rfl, rfl, by decide +kernel, rfl, by decide +kernel, by decide +kernel⟩
abbrev s_Hall_put_in : Stmt := inClass (topS 44) 11
abbrev n_Hall_put_in : List Str := ["self", "name", "place", "turn", "here", "cost"]
theorem S_Hall_put_in : FnScope n_Hall_put_in ["self", "name", "place", "turn"] (defScope s_Hall_put_in) := ⟨rfl, rfl, rfl, by decide +kernel, rfl, by decide +kernel, by decide +kernel⟩
abbrev s_Hall_take_out : Stmt := inClass (topS 44) 12
abbrev n_Hall_take_out : List Str := ["self", "name", "place", "here", "cost"]
theorem S_Hall_take_out : FnScope n_Hall_take_out ["self", "name", "place"] (defScope s_Hall_take_out) := ⟨rfl, rfl, rfl, by decide +kernel, rfl, by decide +kernel, by decide +kernel⟩
abbrev s_Hall_back : Stmt := inClass (topS 44) 13
abbrev n_Hall_back : List Str := ["self"]
theorem S_Hall_back : FnScope n_Hall_back ["self"] (defScope s_Hall_back) := ⟨rfl, rfl, rfl, by decide +kernel, rfl, by decide +kernel, by decide +kernel⟩
abbrev s_Hall_cords : Stmt := inClass (topS 44) 14
abbrev n_Hall_cords : List Str := ["self"]
theorem S_Hall_cords : FnScope n_Hall_cords ["self"] (defScope s_Hall_cords) := ⟨rfl, rfl, rfl, by decide +kernel, rfl, by decide +kernel, by decide +kernel⟩
abbrev s_Hall_paid : Stmt := inClass (topS 44) 15
abbrev n_Hall_paid : List Str := ["self"]
theorem S_Hall_paid : FnScope n_Hall_paid ["self"] (defScope s_Hall_paid) := ⟨rfl, rfl, rfl, by decide +kernel, rfl, by decide +kernel, by decide +kernel⟩
abbrev s_Hall_left : Stmt := inClass (topS 44) 16
abbrev n_Hall_left : List Str := ["self", "name"]
theorem S_Hall_left : FnScope n_Hall_left ["self", "name"] (defScope s_Hall_left) := ⟨rfl, rfl, rfl, by decide +kernel, rfl, by decide +kernel, by decide +kernel⟩
abbrev s_Hall_apart : Stmt := inClass (topS 44) 17
abbrev n_Hall_apart : List Str := ["self", "name", "other", "one", "two"]
theorem S_Hall_apart : FnScope n_Hall_apart ["self", "name", "other"] (defScope s_Hall_apart) := ⟨rfl, rfl, rfl, by decide +kernel, rfl, by decide +kernel, by decide +kernel⟩
abbrev s_lundoes : Stmt := topS 46
abbrev n_lundoes : List Str := ["_law_turn"]
theorem S_lundoes : FnScope n_lundoes ["_law_turn"] (defScope s_lundoes) := ⟨rfl, rfl, rfl, by decide +kernel, rfl, by decide +kernel, by decide +kernel⟩
abbrev s_ltight : Stmt := topS 47
abbrev n_ltight : List Str := ["_law_row_here", "_law_at"]
theorem S_ltight : FnScope n_ltight ["_law_row_here"] (defScope s_ltight) := ⟨rfl, rfl, rfl, by decide +kernel, rfl, by decide +kernel, by decide +kernel⟩
abbrev s_lback : Stmt := topS 48
abbrev n_lback : List Str := ["_law_row_here", "_law_turn"]
theorem S_lback : FnScope n_lback ["_law_row_here"] (defScope s_lback) := ⟨rfl, rfl, rfl, by decide +kernel, rfl, by decide +kernel, by decide +kernel⟩
abbrev s_ldraws : Stmt := topS 49
abbrev n_ldraws : List Str := ["_law_script", "_law_k", "_law_cell"]
theorem S_ldraws : FnScope n_ldraws ["_law_script", "_law_k"] (defScope s_ldraws) := ⟨rfl, rfl, rfl, by decide +kernel, rfl, by decide +kernel, by decide +kernel⟩
abbrev s_ldraw : Stmt := topS 50
abbrev n_ldraw : List Str := ["_law_draws_here", "_law_many", "_law_found", "_law_wide"]
theorem S_ldraw : FnScope n_ldraw ["_law_draws_here", "_law_many"] (defScope s_ldraw) := ⟨rfl, rfl, rfl, by decide +kernel, rfl, by decide +kernel, by decide +kernel⟩
abbrev s_lof : Stmt := topS 51
abbrev n_lof : List Str := ["_law_draws_here", "_law_some"]
theorem S_lof : FnScope n_lof ["_law_draws_here", "_law_some"] (defScope s_lof) := ⟨rfl, rfl, rfl, by decide +kernel, rfl, by decide +kernel, by decide +kernel⟩
abbrev s_lfloor : Stmt := topS 52
abbrev n_lfloor : List Str := ["_law_draws_here", "_law_many", "_law_letters", "_law_far", "_law_bar", "_law_floor_here", "_law_letter"]
theorem S_lfloor : FnScope n_lfloor ["_law_draws_here", "_law_many"] (defScope s_lfloor) := ⟨rfl, rfl, rfl, by decide +kernel, rfl, by decide +kernel, by decide +kernel⟩
abbrev s_lturns : Stmt := topS 53
abbrev n_lturns : List Str := ["_law_floor_here", "_law_found", "_law_letter", "_law_cost"]
theorem S_lturns : FnScope n_lturns ["_law_floor_here"] (defScope s_lturns) := ⟨rfl, rfl, rfl, by decide +kernel, rfl, by decide +kernel, by decide +kernel⟩
abbrev s_lrow : Stmt := topS 54
abbrev n_lrow : List Str := ["_law_draws_here", "_law_floor_here", "_law_many", "_law_signs", "_law_found", "_law_way", "_law_k", "_law_turn", "_law_at", "_law_spot", "_law_inner"]
theorem S_lrow : FnScope n_lrow ["_law_draws_here", "_law_floor_here", "_law_many"] (defScope s_lrow) := ⟨rfl, rfl, rfl, by decide +kernel, rfl, by decide +kernel, by decide +kernel⟩
abbrev s_lcosts : Stmt := topS 55
abbrev n_lcosts : List Str := ["_law_floor_here", "_law_found", "_law_letter", "_law_cost"]
theorem S_lcosts : FnScope n_lcosts ["_law_floor_here"] (defScope s_lcosts) := ⟨rfl, rfl, rfl, by decide +kernel, rfl, by decide +kernel, by decide +kernel⟩
abbrev s_lpriced : Stmt := topS 56
abbrev n_lpriced : List Str := ["_law_floor_here", "_law_costs_here", "_law_turn"]
theorem S_lpriced : FnScope n_lpriced ["_law_floor_here"] (defScope s_lpriced) := ⟨rfl, rfl, rfl, by decide +kernel, rfl, by decide +kernel, by decide +kernel⟩
abbrev s_lbelow : Stmt := topS 57
abbrev n_lbelow : List Str := ["_law_one", "_law_other"]
theorem S_lbelow : FnScope n_lbelow ["_law_one", "_law_other"] (defScope s_lbelow) := ⟨rfl, rfl, rfl, by decide +kernel, rfl, by decide +kernel, by decide +kernel⟩
abbrev s_lplus : Stmt := topS 58
abbrev n_lplus : List Str := ["_law_one", "_law_other"]
theorem S_lplus : FnScope n_lplus ["_law_one", "_law_other"] (defScope s_lplus) := ⟨rfl, rfl, rfl, by decide +kernel, rfl, by decide +kernel, by decide +kernel⟩
abbrev s_lstep : Stmt := topS 59
abbrev n_lstep : List Str := ["_law_one", "_law_other", "_law_at", "_law_turn"]
theorem S_lstep : FnScope n_lstep ["_law_one", "_law_other"] (defScope s_lstep) := ⟨rfl, rfl, rfl, by decide +kernel, rfl, by decide +kernel, by decide +kernel⟩
abbrev s_lled : Stmt := topS 60
abbrev n_lled : List Str := ["_law_hall", "_law_name", "_law_steps", "_law_place", "_law_turn"]
theorem S_lled : FnScope n_lled ["_law_hall", "_law_name", "_law_steps"] (defScope s_lled) := ⟨rfl, rfl, rfl, by decide +kernel, rfl, by decide +kernel, by decide +kernel⟩
abbrev s_law : Stmt := topS 61
abbrev n_law : List Str := ["_law_script", "_law_k", "_law_draws_here", "_law_floor_here", "_law_hall", "_law_one", "_law_other", "_law_first", "_law_apart", "_law_rows", "_law_steps", "_law_turn", "_law_here", "_law_spots", "_law_left", "_law_more", "_law_right", "_law_at"]
theorem S_law : FnScope n_law ["_law_script"] (defScope s_law) := ⟨rfl, rfl, rfl, by decide +kernel, rfl, by decide +kernel, by decide +kernel⟩
/-! ### turns -/
def IsT (c : Nat) : Prop := (97 ≤ c ∧ c ≤ 122) ∨ (65 ≤ c ∧ c ≤ 90)
def und (c : Nat) : Nat := if 97 ≤ c then c - 32 else c + 32
abbrev lettersS : Str := "abcdefghijklmnopqrstuvwxyz"
abbrev greatS : Str := "ABCDEFGHIJKLMNOPQRSTUVWXYZ"
theorem letters_l : lettersS.cps.toList = (List.range 26).map (· + 97) := by decide +kernel
theorem great_l : greatS.cps.toList = (List.range 26).map (· + 65) := by decide +kernel
theorem mem_letters (c : Nat) : c ∈ lettersS.cps.toList ↔ 97 ≤ c ∧ c ≤ 122 := by
  rw [letters_l, List.mem_map]
  constructor
  · rintro ⟨a, h, rfl⟩
    have := List.mem_range.mp h
    omega
  · intro h
    exact ⟨c - 97, List.mem_range.mpr (by omega), by omega⟩
theorem occ_letters : ∀ i : Fin 26, Builtin.Str.occurrences lettersS ⟨#[97 + i.val]⟩ 0 lettersS.length 1 = [i.val] := by decide +kernel
theorem occ_great : ∀ i : Fin 26, Builtin.Str.occurrences greatS ⟨#[65 + i.val]⟩ 0 greatS.length 1 = [i.val] := by decide +kernel
theorem at_letters : ∀ i : Fin 26, atI lettersS.cps.toList (i.val : Int) = some (97 + i.val) := by decide +kernel
theorem at_great : ∀ i : Fin 26, atI greatS.cps.toList (i.val : Int) = some (65 + i.val) := by decide +kernel
abbrev UndoesC (M : Md) (k : Nat) : Prop := Cal M k "undoes" [true] (fun c : Nat => [.str (tx [c])]) IsT (fun c d => d = .str (tx [und c]))
section
variable {M : Md} {k : Nat}
theorem ok_undoes {f : Addr} {fd : FuncData} (F : Fun M.K "undoes" "undoes" s_undoes f fd) (hL : GlS M "LETTERS" lettersS) (hG : GlS M "GREAT" greatS) :
    FnOk M.P M.w M.K M.mg M.base CX0 (k + 1) f fd ["turn"] (SpD M.K [true] (fun c : Nat => [.str (tx [c])]) IsT (fun c d => d = .str (tx [und c]))) := by
  refine fn_ok F S_undoes rfl fun X S c hc => ?_
  show DB X _ [some (.d (.str (tx [c])))] _ _ _ _
  walk_at "go"
  refine .inS ⟨fun h => ?_, fun h => ?_⟩
  · have h1 := (mem_letters c).mp (of_decide_eq_true h)
    walk_at "go"
    refine de_meth PySem.F.plainAttrs_str PySem.F.slot_str_index PySem.F.type_str_index ?_
    walk_at "go"
    refine ⟨tyw_str, ?_⟩
    walk_at "go"
    have o := occ_letters ⟨c - 97, by omega⟩
    have a := at_great ⟨c - 97, by omega⟩
    dsimp only at o a
    rw [show 97 + (c - 97) = c by omega] at o
    refine mw_sindex o ?_
    refine .str (by decide) a ?_
    unfold und
    rw [if_pos h1.1, show c - 32 = 65 + (c - 97) by omega]
  · have h1 : ¬ (97 ≤ c ∧ c ≤ 122) := fun z => (of_decide_eq_false h) ((mem_letters c).mpr z)
    have h2 : 65 ≤ c ∧ c ≤ 90 := by rcases hc with z | z; exact absurd z h1; exact z
    walk_at "go"
    refine de_meth PySem.F.plainAttrs_str PySem.F.slot_str_index PySem.F.type_str_index ?_
    walk_at "go"
    refine ⟨tyw_str, ?_⟩
    walk_at "go"
    have o := occ_great ⟨c - 65, by omega⟩
    have a := at_letters ⟨c - 65, by omega⟩
    dsimp only at o a
    rw [show 65 + (c - 65) = c by omega] at o
    refine mw_sindex o ?_
    refine .str (by decide) a ?_
    unfold und
    rw [if_neg (by omega), show c + 32 = 97 + (c - 65) by omega]
end

/-! ### rows drawn tight -/
abbrev sg (c : Nat) : Da := .str (tx [c])
def Row (r : List Nat) : Prop := ∀ c ∈ r, IsT c
theorem IsT.lt {c : Nat} (h : IsT c) : c < 128 := by unfold IsT at h; omega
theorem strOk_sg {c : Nat} (h : c < 0x110000) : PyData.strOk (tx [c]) = true := by
  unfold PyData.strOk
  simpa using h
theorem und_T {c : Nat} (h : IsT c) : IsT (und c) := by
  unfold IsT at h ⊢
  unfold und
  split <;> omega
def stepT (st : List Nat) (c : Nat) : List Nat := match st with
  | [] => [c]
  | t :: r => if t = und c then r else c :: t :: r
def tightR (r : List Nat) : List Nat := r.foldl stepT []
def tight (r : List Nat) : List Nat := (tightR r).reverse
theorem stepT_row {st : List Nat} {c : Nat} (h : Row st) (hc : IsT c) : Row (stepT st c) := by
  unfold stepT
  split
  · intro d hd
    rw [List.mem_singleton.mp hd]
    exact hc
  · split
    · exact fun d hd => h d (List.mem_cons_of_mem _ hd)
    · intro d hd
      rcases List.mem_cons.mp hd with e | hd
      · rw [e]; exact hc
      · exact h d hd
theorem stepT_len (st : List Nat) (c : Nat) : (stepT st c).length ≤ st.length + 1 := by
  unfold stepT
  split
  · simp
  · split <;> simp
    omega
theorem foldT_row : ∀ {r st : List Nat}, Row r → Row st → Row (r.foldl stepT st)
  | [], _, _, h => h
  | c :: r, st, hr, h => foldT_row (r := r) (fun d hd => hr d (List.mem_cons_of_mem _ hd)) (stepT_row h (hr c List.mem_cons_self))
theorem foldT_len : ∀ (r st : List Nat), (r.foldl stepT st).length ≤ st.length + r.length
  | [], st => by simp
  | c :: r, st => by
    have h1 := foldT_len r (stepT st c)
    have h2 := stepT_len st c
    simp only [List.foldl_cons, List.length_cons]
    omega
theorem tight_row {r : List Nat} (h : Row r) : Row (tight r) := fun c hc => foldT_row h (fun _ z => by cases z) c (List.mem_reverse.mp hc)
theorem tight_len (r : List Nat) : (tight r).length ≤ r.length := by
  have := foldT_len r []
  unfold tight tightR
  rw [List.length_reverse]
  simpa using this
theorem chars_tx (r : List Nat) : chars (tx r) = r.map sg := by
  unfold chars
  rfl
theorem join_sg (r : List Nat) : Txt.join (Str.ofString "") (r.map fun c => tx [c]) = tx r := by
  have e0 : Str.ofString "" = ⟨#[]⟩ := by decide
  rw [e0]
  unfold Txt.join Builtin.Str.glued
  have key : ∀ (l : List Nat) (acc : Array Nat), (l.map fun c => tx [c]).foldl (fun acc p => acc ++ (⟨#[]⟩ : Str).cps ++ p.cps) acc = acc ++ l.toArray := by
    intro l
    induction l with
    | nil => intro acc; simp
    | cons c l ih =>
      intro acc
      rw [List.map_cons, List.foldl_cons, ih]
      simp
  cases r with
  | nil => rfl
  | cons c l =>
    rw [List.map_cons]
    show (⟨(l.map fun c => tx [c]).foldl _ (#[c])⟩ : Str) = _
    rw [key]
    simp
theorem joinR {X : Cx} {Φ : Da → Prop} (r : List Nat) (hl : r.length ≤ 1000000) (h : Φ (.str (tx r))) : MW X "str.join" (.str (Str.ofString "")) [.lst (r.map sg)] Φ := by
  have e : r.map sg = (r.map fun c => tx [c]).map Da.str := by rw [List.map_map]; rfl
  rw [e]
  refine mw_joinL ?_ ?_
  · have e1 : ((r.map fun c => tx [c]).map (·.length)) = r.map fun _ => 1 := by rw [List.map_map]; rfl
    rw [e1]
    have e2 : (r.map fun _ => 1).sum = r.length := by
      clear hl h e e1
      induction r with
      | nil => rfl
      | cons c r ih => simp [ih]; omega
    rw [e2]
    have e3 : (Str.ofString "").length = 0 := by decide
    rw [e3]
    omega
  · rw [join_sg]
    exact h
theorem shp_sgs {r : List Nat} (h : Row r) : Shp 1 (.lst (r.map sg)) := .lst fun d hd => by
  obtain ⟨c, hc, rfl⟩ := List.mem_map.mp hd
  exact .str (strOk_sg (by have := (h c hc).lt; omega))
abbrev TightC (M : Md) (k : Nat) : Prop := Cal M k "tight" [true] (fun r : List Nat => [.str (tx r)]) (fun r => Row r ∧ r.length ≤ 100000) (fun r d => d = .str (tx (tight r)))
section
variable {M : Md} {k : Nat}
theorem ok_tight {f : Addr} {fd : FuncData} (F : Fun M.K "tight" "tight" s_tight f fd) (cU : UndoesC M k) :
    FnOk M.P M.w M.K M.mg M.base CX0 (k + 1) f fd ["row"] (SpD M.K [true] (fun r : List Nat => [.str (tx r)]) (fun r => Row r ∧ r.length ≤ 100000) (fun r d => d = .str (tx (tight r)))) := by
  refine fn_ok F S_tight rfl fun X S r ⟨hr, hl⟩ => ?_
  show DB X _ [some (.d (.str (tx r))), none, none] _ _ _ _
  refine db_cons ?_
  refine ds_ownL S ⟨_, by walk_at "ss", ?_⟩ (by walk_at "dk")
  refine db_cons ?_
  refine ds_for S (di_str ?_)
  walk_at "go"
  refine ⟨_, rfl, fun i δ => ∃ x, δ = [some (.d (.str (tx r))), some (.ol (((r.take i).foldl stepT []).reverse.map sg)), x], ⟨_, rfl⟩, ?_, ?_⟩
  · rintro i d δ' hi ⟨x, rfl⟩
    rw [chars_tx, List.getElem?_map] at hi
    obtain ⟨c, hc, rfl⟩ := Option.map_eq_some_iff.mp hi
    have hcr : c ∈ r := List.mem_of_getElem? hc
    have hT := hr c hcr
    generalize hst : (r.take i).foldl stepT [] = st
    have hrow : Row st := by rw [← hst]; exact foldT_row (fun d hd => hr d (List.mem_of_mem_take hd)) (fun _ z => by cases z)
    have hlen : st.length ≤ r.length := by
      have := foldT_len (r.take i) []
      rw [hst] at this
      simp at this
      omega
    have hnext : (r.take (i + 1)).foldl stepT [] = stepT st c := by
      rw [List.take_add_one, hc, Option.toList_some, List.foldl_append, hst]
      rfl
    refine ⟨_, dg_name S (by walk_at "dk") ⟨_, by walk_at "ss", ?_⟩⟩
    have hrev : Row st.reverse := fun d hd => hrow d (List.mem_reverse.mp hd)
    walk_at "go"
    refine cmp_neNil (shp_sgs hrev) ⟨fun h => ?_, fun h => ?_⟩
    · obtain ⟨t, s2, rfl⟩ : ∃ t s2, st = t :: s2 := by
        cases st with
        | nil => simp at h
        | cons t s2 => exact ⟨t, s2, rfl⟩
      have hat : atI ((t :: s2).reverse.map sg) (-1) = some (sg t) := by
        rw [List.reverse_cons, List.map_append]
        exact atI_last _ _
      walk_at "go"
      refine ⟨1, rfl, -1, _, rfl, hat, ?_⟩
      walk_at "go"
      refine ⟨c, rfl, hT, ?_⟩
      rintro _ rfl
      refine .eqS rfl ⟨fun h => ?_, fun h => ?_⟩
      · have e : t = und c := by simpa using h
        walk_at "go"
        refine ds_pop S (by walk_at "gt") (by walk_at "dk") (by simp) ⟨_, by walk_at "ss", ?_⟩
        walk_at "go"
        have e2 : stepT (t :: s2) c = s2 := by simp [stepT, e]
        have e3 : ((t :: s2).reverse.map sg).dropLast = s2.reverse.map sg := by simp
        dsimp only
        rw [hnext, e2, e3]
        exact ⟨_, rfl⟩
      · have e : t ≠ und c := by simpa using h
        walk_at "go"
        rotate_left
        · simp at hlen ⊢; omega
        refine ⟨_, by walk_at "ss", ?_⟩
        walk_at "go"
        have e2 : stepT (t :: s2) c = c :: t :: s2 := by simp [stepT, e]
        have e3 : (t :: s2).reverse.map sg ++ [sg c] = (c :: t :: s2).reverse.map sg := by simp
        dsimp only
        rw [hnext, e2, ← e3]
        exact ⟨_, rfl⟩
    · obtain rfl : st = [] := by
        cases st with
        | nil => rfl
        | cons t s2 => simp at h
      walk_at "go"
      rotate_left
      · simp
      refine ⟨_, by walk_at "ss", ?_⟩
      walk_at "go"
      dsimp only
      rw [hnext]
      exact ⟨_, rfl⟩
  · rintro δ' ⟨x, rfl⟩
    have e : (r.map sg).length = r.length := by simp
    rw [chars_tx, e, List.take_length]
    refine db_freezeL (by walk_at "gt") ⟨_, by walk_at "ss", ?_⟩ S.nd
    walk_at "go"
    refine de_meth PySem.F.plainAttrs_str PySem.F.slot_str_join PySem.F.type_str_join ?_
    walk_at "go"
    refine ⟨tyw_str, ?_⟩
    walk_at "go"
    have hr2 := tight_len r
    refine joinR (tight r) (by omega) ?_
    rfl
end

/-! ### a row led back -/
def back (r : List Nat) : List Nat := (r.map und).reverse
abbrev BackC (M : Md) (k : Nat) : Prop := Cal M k "back" [true] (fun r : List Nat => [.str (tx r)]) (fun r => Row r ∧ r.length ≤ 100000) (fun r d => d = .str (tx (back r)))
theorem toList_tx (r : List Nat) : (tx r).cps.toList = r := rfl
theorem len_tx (r : List Nat) : (tx r).length = r.length := by
  show r.toArray.size = _
  simp
theorem sl1 {n : Nat} (h : n ≤ 1000000) : n ≤ sizeLine := by
  have : sizeLine = 16777216 := sizeLine_eq
  omega
section
variable {M : Md} {k : Nat}
theorem ok_back {f : Addr} {fd : FuncData} (F : Fun M.K "back" "back" s_back f fd) (cU : UndoesC M k) :
    FnOk M.P M.w M.K M.mg M.base CX0 (k + 1) f fd ["row"] (SpD M.K [true] (fun r : List Nat => [.str (tx r)]) (fun r => Row r ∧ r.length ≤ 100000) (fun r d => d = .str (tx (back r)))) := by
  refine fn_ok F S_back rfl fun X S r ⟨hr, hl⟩ => ?_
  show DB X _ [some (.d (.str (tx r))), none] _ _ _ _
  walk_at "go"
  refine de_meth PySem.F.plainAttrs_str PySem.F.slot_str_join PySem.F.type_str_join ?_
  walk_at "go"
  refine ⟨tyw_str, ?_⟩
  walk_at "go"
  refine de_lc1 S (di_str ?_) (by walk_at "dk")
  walk_at "go"
  refine .str (by rw [len_tx]; exact sl1 (by omega)) ⟨_, rfl, ?_⟩
  rw [toList_tx, chars_tx]
  refine lc_map (f := fun c => sg (und c)) (by walk_at "wp") (by simp; omega) (fun X1 S1 c hc => ?_) ?_
  · have hT := hr c (List.mem_reverse.mp hc)
    refine dg_name S1 (by walk_at "dk") ⟨_, by walk_at "ss", fun X2 S2 => ?_⟩
    walk_at "go"
    exact ⟨c, rfl, hT, fun d hd => hd⟩
  · walk_at "go"
    have e : (r.reverse.map fun c => sg (und c)) = (back r).map sg := by simp [back]
    rw [e]
    exact joinR (back r) (by simp [back]; omega) rfl
end

theorem upper_sg : ∀ c : Fin 128, (IsT c.val) → Txt.upper (tx [c.val]) = tx [if 97 ≤ c.val then c.val - 32 else c.val] := by
  unfold IsT
  decide +kernel
theorem lower_sg : ∀ c : Fin 128, (IsT c.val) → Txt.lower (tx [c.val]) = tx [if 97 ≤ c.val then c.val else c.val + 32] := by
  unfold IsT
  decide +kernel
abbrev LUndoesC (M : Md) (k : Nat) : Prop := Cal M k "_law_undoes" [true] (fun c : Nat => [.str (tx [c])]) IsT (fun c d => d = .str (tx [und c]))
section
variable {M : Md} {k : Nat}
theorem ok_lundoes {f : Addr} {fd : FuncData} (F : Fun M.K "_law_undoes" "_law_undoes" s_lundoes f fd) :
    FnOk M.P M.w M.K M.mg M.base CX0 (k + 1) f fd ["_law_turn"] (SpD M.K [true] (fun c : Nat => [.str (tx [c])]) IsT (fun c d => d = .str (tx [und c]))) := by
  refine fn_ok F S_lundoes rfl fun X S c hc => ?_
  show DB X _ [some (.d (.str (tx [c])))] _ _ _ _
  have hu := upper_sg ⟨c, hc.lt⟩ hc
  have hl := lower_sg ⟨c, hc.lt⟩ hc
  dsimp only at hu hl
  walk_at "go"
  refine de_meth0 PySem.F.plainAttrs_str PySem.F.slot_str_lower PySem.F.type_str_lower ?_
  walk_at "go"
  refine ⟨tyw_str, mw_lower (by show 1 ≤ 5592405; decide) ?_⟩
  rw [hl]
  refine .eqS rfl ⟨fun h => ?_, fun h => ?_⟩
  · have e : c = if 97 ≤ c then c else c + 32 := by simpa using h
    have h97 : 97 ≤ c := by
      by_cases hh : 97 ≤ c
      · exact hh
      · rw [if_neg hh] at e; omega
    refine de_meth0 PySem.F.plainAttrs_str PySem.F.slot_str_upper PySem.F.type_str_upper ?_
    walk_at "go"
    refine ⟨tyw_str, mw_upper (by show 1 ≤ 5592405; decide) ?_⟩
    rw [hu]
    unfold und
    rw [if_pos h97, if_pos h97]
  · have e : c ≠ if 97 ≤ c then c else c + 32 := by simpa using h
    have h97 : ¬ 97 ≤ c := fun hh => e (by rw [if_pos hh])
    refine de_meth0 PySem.F.plainAttrs_str PySem.F.slot_str_lower PySem.F.type_str_lower ?_
    walk_at "go"
    refine ⟨tyw_str, mw_lower (by show 1 ≤ 5592405; decide) ?_⟩
    rw [hl]
    unfold und
    rw [if_neg h97, if_neg h97]
end

/-! ### draws -/
abbrev DrawC (M : Md) (k : Nat) : Prop := Cal M k "_law_draw" [true, true] (fun n : Int => [.drw, .int n]) (fun n => 1 ≤ n ∧ n < 1073741824) (fun n d => ∃ r, d = .int r ∧ 0 ≤ r ∧ r < n)
section
variable {M : Md} {k : Nat}
theorem ok_ldraw {f : Addr} {fd : FuncData} (F : Fun M.K "_law_draw" "_law_draw" s_ldraw f fd) :
    FnOk M.P M.w M.K M.mg M.base CX0 (k + 1) f fd ["_law_draws_here", "_law_many"] (SpD M.K [true, true] (fun n : Int => [.drw, .int n]) (fun n => 1 ≤ n ∧ n < 1073741824) (fun n d => ∃ r, d = .int r ∧ 0 ≤ r ∧ r < n)) := by
  refine fn_ok F S_ldraw rfl fun X S n ⟨hn, hn2⟩ => ?_
  show DB X _ [some (.d .drw), some (.d (.int n)), none, none] _ _ _ _
  walk_at "go"
  refine .drw (.inl rfl) fun z _ => ?_
  walk_at "go"
  refine .gt ⟨fun h => ?_, fun h => ?_⟩
  · walk_at "go"
    refine .drw (.inl rfl) fun z _ => ?_
    walk_at "go"
    refine ⟨_, by walk_at "ss", ?_⟩
    refine db_cons (ds_drwSet S (by walk_at "gt") (by walk_at "dk") ?_)
    walk_at "go"
    refine .drw (.inl rfl) fun z2 _ => ?_
    walk_at "go"
    refine ⟨_, 0, rfl, rfl, .inl rfl, (fun z => nomatch z), ?_⟩
    walk_at "go"
    exact ⟨_, rfl, Int.emod_nonneg _ (by omega), Int.emod_lt_of_pos _ (by omega)⟩
  · walk_at "go"
    refine ⟨_, by walk_at "ss", ?_⟩
    walk_at "go"
    refine ⟨_, by walk_at "ss", ?_⟩
    refine db_cons (ds_while S (fun m δ => ∃ f w : Int, 1 ≤ w ∧ m = (n - w).toNat ∧ δ = [some (.d .drw), some (.d (.int n)), some (.d (.int f)), some (.d (.int w))]) ⟨_, 0, 1, by decide, rfl, rfl⟩ ?_)
    rintro m δ ⟨f, w, hw, rfl, rfl⟩
    walk_at "go"
    refine .lt ⟨fun h => ?_, fun h => ?_⟩
    · have hlt : w < n := of_decide_eq_true h
      refine db_cons (ds_drwSet S (by walk_at "gt") (by walk_at "dk") ?_)
      walk_at "go"
      refine .drw (.inr rfl) fun z hz => ?_
      walk_at "go"
      refine ⟨_, 1, rfl, rfl, .inr rfl, (fun _ => ⟨Int.emod_nonneg _ (by decide), Int.lt_trans (Int.emod_lt_of_pos _ (by decide)) (by decide)⟩), ?_⟩
      walk_at "go"
      refine .drw (.inr rfl) fun z1 hz1 => ?_
      walk_at "go"
      refine .drw (.inr rfl) fun z2 hz2 => ?_
      have b1 := hz1 rfl
      have b2 := hz2 rfl
      walk_at "go"
      rotate_left
      · exact .inl (.inl ⟨by omega, by omega⟩)
      walk_at "go"
      refine ⟨_, by walk_at "ss", ?_⟩
      walk_at "go"
      refine ⟨_, by walk_at "ss", ?_⟩
      walk_at "go"
      exact ⟨_, by omega, _, _, by omega, rfl, rfl⟩
    · walk_at "go"
      exact ⟨_, rfl, Int.emod_nonneg _ (by omega), Int.emod_lt_of_pos _ (by omega)⟩
end

/-! ### the law's own makers: one of some, draws, floors, turns, rows -/
theorem atI_nat' {α : Type} {l : List α} {i : Int} (h0 : 0 ≤ i) (h : i < l.length) : ∃ d, atI l i = some d ∧ d ∈ l := by
  obtain ⟨j, rfl⟩ := Int.eq_ofNat_of_zero_le h0
  have hj : j < l.length := by omega
  exact ⟨l[j], by rw [show ((j : Nat) : Int) = ((j : Nat) : Int) from rfl]; exact atI_nat (List.getElem?_eq_getElem hj), List.getElem_mem hj⟩
def OfPre (s : Da) : Prop := (∃ l : List Da, s = .lst l ∧ 1 ≤ l.length ∧ l.length < 1000000) ∨ (∃ r : List Nat, s = .str (tx r) ∧ 1 ≤ r.length ∧ r.length < 1000000)
def OfPost (s d : Da) : Prop := (∀ l, s = .lst l → d ∈ l) ∧ (∀ r : List Nat, s = .str (tx r) → ∃ c ∈ r, d = sg c)
abbrev OfC (M : Md) (k : Nat) : Prop := Cal M k "_law_of" [true, true] (fun s : Da => [.drw, s]) OfPre OfPost
abbrev DrawsC (M : Md) (k : Nat) : Prop := Cal M k "_law_draws" [true, true] (fun p : List Int × Int => [.scr p.1, .int p.2]) (fun p => p.1.length ≤ 63 ∧ 0 ≤ p.2 ∧ p.2 < 1000) (fun _ d => d = .drw)
/-- a floor -/
abbrev Floor := List (Nat × Option Int)
def encO : Option Int → Da
  | none => .non
  | some i => .int i
def encF (fl : Floor) : Da := .tup (fl.map fun p => .tup [sg p.1, encO p.2])
def CostOk (c : Option Int) : Prop := ∀ i, c = some i → 1 ≤ i ∧ i ≤ 100
structure FloorOk (fl : Floor) : Prop where
  asc : (fl.map (·.1)).Pairwise (· < ·)
  ok : ∀ p ∈ fl, 97 ≤ p.1 ∧ p.1 ≤ 122 ∧ CostOk p.2
  pos : 1 ≤ fl.length
  len : fl.length ≤ 8
abbrev FloorC (M : Md) (k : Nat) : Prop := Cal M k "_law_floor" [true, true] (fun n : Int => [.drw, .int n]) (fun n => 1 ≤ n ∧ n ≤ 8) (fun n d => ∃ fl : Floor, d = encF fl ∧ FloorOk fl ∧ (fl.length : Int) ≤ n)
def lets (fl : Floor) : List Nat := fl.map (·.1)
def turnsF (fl : Floor) : List Nat := lets fl ++ (lets fl).map (· - 32)
abbrev TurnsC (M : Md) (k : Nat) : Prop := Cal M k "_law_turns" [true] (fun fl : Floor => [encF fl]) FloorOk (fun fl d => d = .str (tx (turnsF fl)))
def RowOf (fl : Floor) (r : List Nat) : Prop := ∀ c ∈ r, c ∈ turnsF fl
abbrev RowC (M : Md) (k : Nat) : Prop := Cal M k "_law_row" [true, true, true] (fun p : Floor × Int => [.drw, encF p.1, .int p.2]) (fun p => FloorOk p.1 ∧ 0 ≤ p.2 ∧ p.2 ≤ 1000) (fun p d => ∃ r, d = .str (tx r) ∧ RowOf p.1 r ∧ (r.length : Int) ≤ p.2)
theorem turnsF_T {fl : Floor} (h : FloorOk fl) {c : Nat} (hc : c ∈ turnsF fl) : IsT c := by
  unfold turnsF lets at hc
  rcases List.mem_append.mp hc with hc | hc
  · obtain ⟨p, hp, rfl⟩ := List.mem_map.mp hc
    have := h.ok p hp
    exact .inl ⟨this.1, this.2.1⟩
  · rw [List.map_map] at hc
    obtain ⟨p, hp, rfl⟩ := List.mem_map.mp hc
    have := h.ok p hp
    unfold IsT
    dsimp only [Function.comp]
    omega
theorem turnsF_und {fl : Floor} (h : FloorOk fl) {c : Nat} (hc : c ∈ turnsF fl) : und c ∈ turnsF fl := by
  unfold turnsF lets at hc ⊢
  rw [List.map_map] at hc ⊢
  rcases List.mem_append.mp hc with hc | hc
  · obtain ⟨p, hp, rfl⟩ := List.mem_map.mp hc
    have := h.ok p hp
    refine List.mem_append_right _ (List.mem_map.mpr ⟨p, hp, ?_⟩)
    unfold und
    rw [if_pos this.1]
    rfl
  · obtain ⟨p, hp, rfl⟩ := List.mem_map.mp hc
    have := h.ok p hp
    refine List.mem_append_left _ (List.mem_map.mpr ⟨p, hp, ?_⟩)
    unfold und
    dsimp only [Function.comp]
    rw [if_neg (by omega)]
    omega
theorem turnsF_len (fl : Floor) : (turnsF fl).length = 2 * fl.length := by
  unfold turnsF lets
  simp
  omega
theorem RowOf.row {fl : Floor} (h : FloorOk fl) {r : List Nat} (hr : RowOf fl r) : Row r := fun c hc => turnsF_T h (hr c hc)
theorem RowOf.app {fl : Floor} {r s : List Nat} (hr : RowOf fl r) (hs : RowOf fl s) : RowOf fl (r ++ s) := fun c hc => (List.mem_append.mp hc).elim (hr c) (hs c)
theorem RowOf.sub {fl : Floor} {r s : List Nat} (hr : RowOf fl r) (h : ∀ c ∈ s, c ∈ r) : RowOf fl s := fun c hc => hr c (h c hc)
theorem cut_to (r : List Nat) {j : Int} (h : 0 ≤ j) : cutS (tx r) none (some j) = tx (r.take j.toNat) := by
  obtain ⟨n, rfl⟩ := Int.eq_ofNat_of_zero_le h
  unfold cutS
  have e : HT.sIx (tx r).length (tx r).length (some ((n : Nat) : Int)) = min n r.length := by rw [HT.sIx_nat, len_tx]
  have e0 : HT.sIx (tx r).length 0 none = 0 := rfl
  rw [e, e0]
  show (⟨((r.drop 0).take (min n r.length - 0)).toArray⟩ : Str) = ⟨(r.take n).toArray⟩
  rw [List.drop_zero, Nat.sub_zero]
  by_cases hn : n ≤ r.length
  · rw [Nat.min_eq_left hn]
  · rw [Nat.min_eq_right (by omega), List.take_of_length_le (Nat.le_refl _), List.take_of_length_le (by omega)]
theorem cut_from (r : List Nat) {j : Int} (h : 0 ≤ j) : cutS (tx r) (some j) none = tx (r.drop j.toNat) := by
  obtain ⟨n, rfl⟩ := Int.eq_ofNat_of_zero_le h
  unfold cutS
  have e : HT.sIx (tx r).length 0 (some ((n : Nat) : Int)) = min n r.length := by rw [HT.sIx_nat, len_tx]
  have e0 : HT.sIx (tx r).length (tx r).length none = r.length := by rw [HT.sIx_none, len_tx]
  rw [e, e0]
  show (⟨((r.drop (min n r.length)).take (r.length - min n r.length)).toArray⟩ : Str) = ⟨(r.drop n).toArray⟩
  rw [List.take_of_length_le (by rw [List.length_drop]; omega)]
  by_cases hn : n ≤ r.length
  · rw [Nat.min_eq_left hn]
  · rw [Nat.min_eq_right (by omega), List.drop_of_length_le (Nat.le_refl _), List.drop_of_length_le (by omega)]
theorem cut_mid (r : List Nat) {i j : Int} (h : 0 ≤ i) (h2 : 0 ≤ j) : cutS (tx r) (some i) (some j) = tx ((r.drop i.toNat).take (j.toNat - i.toNat)) := by
  obtain ⟨n, rfl⟩ := Int.eq_ofNat_of_zero_le h
  obtain ⟨m, rfl⟩ := Int.eq_ofNat_of_zero_le h2
  unfold cutS
  rw [HT.sIx_nat, HT.sIx_nat, len_tx]
  show (⟨((r.drop (min n r.length)).take (min m r.length - min n r.length)).toArray⟩ : Str) = ⟨((r.drop n).take (m - n)).toArray⟩
  by_cases hn : n ≤ r.length
  · rw [Nat.min_eq_left hn]
    by_cases hm : m ≤ r.length
    · rw [Nat.min_eq_left hm]
    · rw [Nat.min_eq_right (by omega), List.take_of_length_le (by rw [List.length_drop]; omega), List.take_of_length_le (by rw [List.length_drop]; omega)]
  · rw [List.drop_of_length_le (l := r) (i := n) (by omega), List.drop_of_length_le (l := r) (by omega)]
    simp
theorem app_tx (r s : List Nat) : (tx r ++ tx s : Str) = tx (r ++ s) := by
  show (⟨r.toArray ++ s.toArray⟩ : Str) = _
  simp
theorem up1_low : ∀ c : Fin 128, 97 ≤ c.val → c.val ≤ 122 → up1 c.val = c.val - 32 := by decide +kernel
theorem upper_tx (r : List Nat) (h : ∀ c ∈ r, 97 ≤ c ∧ c ≤ 122) : Txt.upper (tx r) = tx (r.map (· - 32)) := by
  rw [upper_ascii (x := tx r) (fun c hc => by have := h c hc; omega)]
  show (⟨(r.toArray).map up1⟩ : Str) = _
  rw [List.map_toArray]
  have e : r.map up1 = r.map (· - 32) := List.map_congr_left fun c hc => by
    have := h c hc
    exact up1_low ⟨c, by omega⟩ this.1 this.2
  rw [e]
section
variable {M : Md} {k : Nat}
theorem ok_lof {f : Addr} {fd : FuncData} (F : Fun M.K "_law_of" "_law_of" s_lof f fd) (cD : DrawC M k) (ml : M.mg "len" = none) :
    FnOk M.P M.w M.K M.mg M.base CX0 (k + 1) f fd ["_law_draws_here", "_law_some"] (SpD M.K [true, true] (fun s : Da => [.drw, s]) OfPre OfPost) := by
  refine fn_ok F S_lof rfl fun X S s hs => ?_
  show DB X _ [some (.d .drw), some (.d s)] _ _ _ _
  rcases hs with ⟨l, rfl, h1, h2⟩ | ⟨r, rfl, h1, h2⟩
  · walk_at "go"
    refine bw_lenL ?_
    walk_at "go"
    refine ⟨_, rfl, by omega, ?_⟩
    rintro _ ⟨i, rfl, h3, h4⟩
    obtain ⟨d, hd, hm⟩ := atI_nat' h3 h4
    refine .lst hd ⟨fun l' e => ?_, fun r e => ?_⟩
    · cases e; exact hm
    · cases e
  · walk_at "go"
    refine bw_lenS (by rw [len_tx]; exact sl1 (by omega)) ?_
    rw [len_tx]
    walk_at "go"
    refine ⟨_, rfl, by omega, ?_⟩
    rintro _ ⟨i, rfl, h3, h4⟩
    obtain ⟨d, hd, hm⟩ := atI_nat' h3 h4
    refine .str (by rw [len_tx]; exact sl1 (by omega)) hd ⟨fun l' e => ?_, fun r' e => ?_⟩
    · cases e
    · have e2 : r' = r := by
        have := congrArg (fun d => match d with | Da.a (.str z) => z.cps.toList | _ => []) e
        exact this.symm
      rw [e2]
      exact ⟨d, hm, rfl⟩
theorem ok_ldraws {f : Addr} {fd : FuncData} (F : Fun M.K "_law_draws" "_law_draws" s_ldraws f fd) (ml : M.mg "len" = none) (mi : M.mg "int" = none) :
    FnOk M.P M.w M.K M.mg M.base CX0 (k + 1) f fd ["_law_script", "_law_k"] (SpD M.K [true, true] (fun p : List Int × Int => [.scr p.1, .int p.2]) (fun p => p.1.length ≤ 63 ∧ 0 ≤ p.2 ∧ p.2 < 1000) (fun _ d => d = .drw)) := by
  refine fn_ok F S_ldraws rfl fun X S ⟨ns, kk⟩ ⟨h1, h2, h3⟩ => ?_
  dsimp only at h1 h2 h3
  show DB X _ [some (.d (.scr ns)), some (.d (.int kk)), none] _ _ _ _
  have fin : ∀ c : Int, DB X [(defBody s_ldraws).getD 2 (.Pass ⟨0, 0, 0, 0⟩)] [some (.d (.scr ns)), some (.d (.int kk)), some (.d (.int c))] (fun _ => Da.non = .drw) (fun d => d = .drw) (fun _ => False) (fun _ => False) := fun c => by
    refine db_cons (ds_ret (de_lstDrw ?_))
    walk_at "go"
    refine .ge ?_
    walk_at "go"
    refine bw_intB ?_
    walk_at "go"
    rotate_left
    · refine .inl (.inr ?_)
      split <;> exact ⟨by decide, by decide⟩
    walk_at "go"
    refine ⟨_, _, rfl, ?_, rfl⟩
    have b1 := Int.emod_nonneg (c * 69621 + 86028121 * (kk + 1)) (show (2147483646 : Int) ≠ 0 by decide)
    have b2 := Int.emod_lt_of_pos (c * 69621 + 86028121 * (kk + 1)) (show (0 : Int) < 2147483646 by decide)
    omega
  walk_at "go"
  refine ⟨_, by walk_at "ss", ?_⟩
  walk_at "go"
  refine bw_lenC ?_
  refine .lt ⟨fun h => ?_, fun h => ?_⟩
  · have hk := of_decide_eq_true h
    obtain ⟨z, hz, _⟩ := atI_nat' (l := ns) h2 hk
    walk_at "go"
    refine .scr hz ?_
    walk_at "go"
    refine ⟨_, by walk_at "ss", ?_⟩
    exact db_nil (fin _)
  · walk_at "go"
    refine bw_lenC ?_
    walk_at "go"
    refine .gt ⟨fun h => ?_, fun h => ?_⟩
    · have hk : (0 : Int) < ns.length := of_decide_eq_true h
      walk_at "go"
      refine bw_lenC ?_
      walk_at "go"
      obtain ⟨z, hz, _⟩ := atI_nat' (l := ns) (i := kk % (ns.length : Int)) (Int.emod_nonneg _ (by omega)) (Int.emod_lt_of_pos _ hk)
      refine .scr hz ?_
      walk_at "go"
      refine ⟨_, by walk_at "ss", ?_⟩
      exact db_nil (db_nil (fin _))
    · exact db_nil (db_nil (fin _))
theorem encF_len (fl : Floor) : (fl.map fun p => Da.tup [sg p.1, encO p.2]).length = fl.length := by simp
def floorTexts : List (List Nat) := [[97, 98, 99, 100, 101, 102, 103, 104], [97, 99, 101, 103, 108, 109, 120, 122], [109, 110, 111, 112, 113, 114, 115, 116]]
theorem ok_lfloor {f : Addr} {fd : FuncData} (F : Fun M.K "_law_floor" "_law_floor" s_lfloor f fd) (cD : DrawC M k) (cO : OfC M k) (mt : M.mg "tuple" = none) :
    FnOk M.P M.w M.K M.mg M.base CX0 (k + 1) f fd ["_law_draws_here", "_law_many"] (SpD M.K [true, true] (fun n : Int => [.drw, .int n]) (fun n => 1 ≤ n ∧ n ≤ 8) (fun n d => ∃ fl : Floor, d = encF fl ∧ FloorOk fl ∧ (fl.length : Int) ≤ n)) := by
  refine fn_ok F S_lfloor rfl fun X S n ⟨hn, hn2⟩ => ?_
  show DB X _ [some (.d .drw), some (.d (.int n)), none, none, none, none, none] _ _ _ _
  walk_at "go"
  refine ⟨_, rfl, .inl ⟨_, rfl, by decide, by decide⟩, ?_⟩
  rintro d ⟨hd, _⟩
  have hd2 := hd _ rfl
  obtain ⟨ls, hls, hlen, hasc, hlow⟩ : ∃ ls : List Nat, d = .str (tx ls) ∧ ls.length = 8 ∧ ls.Pairwise (· < ·) ∧ ∀ c ∈ ls, 97 ≤ c ∧ c ≤ 122 := by
    rcases List.mem_cons.mp hd2 with rfl | hd2
    · exact ⟨[97, 98, 99, 100, 101, 102, 103, 104], congrArg (fun z => Da.a (V.str z)) (by decide : Str.ofString "abcdefgh" = tx [97, 98, 99, 100, 101, 102, 103, 104]), by decide, by decide, by decide⟩
    rcases List.mem_cons.mp hd2 with rfl | hd2
    · exact ⟨[97, 99, 101, 103, 108, 109, 120, 122], congrArg (fun z => Da.a (V.str z)) (by decide : Str.ofString "aceglmxz" = tx [97, 99, 101, 103, 108, 109, 120, 122]), by decide, by decide, by decide⟩
    rcases List.mem_cons.mp hd2 with rfl | hd2
    · exact ⟨[109, 110, 111, 112, 113, 114, 115, 116], congrArg (fun z => Da.a (V.str z)) (by decide : Str.ofString "mnopqrst" = tx [109, 110, 111, 112, 113, 114, 115, 116]), by decide, by decide, by decide⟩
    cases hd2
  subst hls
  walk_at "go"
  refine ⟨n, rfl, ⟨hn, by omega⟩, ?_⟩
  rintro _ ⟨i, rfl, h3, h4⟩
  walk_at "go"
  refine ⟨_, rfl, .str (by rw [len_tx]; exact sl1 (by omega)) ?_⟩
  rw [cut_to ls (by omega)]
  generalize hlt : ls.take (1 + i).toNat = lt
  have ltl : lt.length = (1 + i).toNat := by rw [← hlt, List.length_take]; omega
  have lta : lt.Pairwise (· < ·) := by rw [← hlt]; exact hasc.sublist (List.take_sublist _ _)
  have ltw : ∀ c ∈ lt, 97 ≤ c ∧ c ≤ 122 := fun c hc => hlow c (by rw [← hlt] at hc; exact List.mem_of_mem_take hc)
  refine ⟨_, by walk_at "ss", ?_⟩
  walk_at "go"
  refine ⟨3, rfl, ⟨by decide, by decide⟩, ?_⟩
  rintro _ ⟨j, rfl, h5, h6⟩
  obtain ⟨fard, hfar, hfarm⟩ := atI_nat' (l := [Da.int 1, .int 3, .int 100]) h5 h6
  obtain ⟨far, rfl, hf1, hf2⟩ : ∃ far : Int, fard = .int far ∧ 1 ≤ far ∧ far ≤ 100 := by
    rcases List.mem_cons.mp hfarm with rfl | h
    · exact ⟨1, rfl, by decide, by decide⟩
    rcases List.mem_cons.mp h with rfl | h
    · exact ⟨3, rfl, by decide, by decide⟩
    rcases List.mem_cons.mp h with rfl | h
    · exact ⟨100, rfl, by decide, by decide⟩
    cases h
  refine .lst hfar ?_
  walk_at "go"
  refine ⟨3, rfl, ⟨by decide, by decide⟩, ?_⟩
  rintro _ ⟨b, rfl, _, _⟩
  walk_at "go"
  refine .eqS rfl ?_
  generalize decide (V.int b = V.int 0) = bar
  refine ⟨_, _, by walk_at "ss", by walk_at "ss", ?_⟩
  refine db_cons (ds_ownL S ⟨_, by walk_at "ss", ?_⟩ (by walk_at "dk"))
  refine db_cons (ds_for S (di_str ?_))
  walk_at "go"
  refine ⟨_, rfl, fun i δ => ∃ (x : Option SD) (fl : Floor), δ = [some (.d .drw), some (.d (.int n)), some (.d (.str (tx lt))), some (.d (.int far)), some (.d (.bl bar)), some (.ol (fl.map fun p => Da.tup [sg p.1, encO p.2])), x] ∧ fl.map (·.1) = lt.take i ∧ ∀ p ∈ fl, CostOk p.2, ⟨none, [], rfl, rfl, fun p hp => by cases hp⟩, ?_, ?_⟩
  · rintro i d δ' hi ⟨x, fl, rfl, hfl, hc⟩
    rw [chars_tx, List.getElem?_map] at hi
    obtain ⟨c, hci, rfl⟩ := Option.map_eq_some_iff.mp hi
    have hil : i < lt.length := (List.getElem?_eq_some_iff.mp hci).1
    refine ⟨_, dg_name S (by walk_at "dk") ⟨_, by walk_at "ss", ?_⟩⟩
    have hlenfl : fl.length ≤ 8 := by
      have := congrArg List.length hfl
      rw [List.length_map, List.length_take] at this
      omega
    have fin : ∀ o : Option Int, CostOk o → ∃ (x : Option SD) (fl' : Floor), [some (SD.d .drw), some (.d (.int n)), some (.d (.str (tx lt))), some (.d (.int far)), some (.d (.bl bar)), some (.ol ((fl.map fun p => Da.tup [sg p.1, encO p.2]) ++ [Da.tup [sg c, encO o]])), some (.d (sg c))] =
        [some (.d .drw), some (.d (.int n)), some (.d (.str (tx lt))), some (.d (.int far)), some (.d (.bl bar)), some (.ol (fl'.map fun p => Da.tup [sg p.1, encO p.2])), x] ∧ fl'.map (·.1) = lt.take (i + 1) ∧ ∀ p ∈ fl', CostOk p.2 := fun o ho =>
      ⟨_, fl ++ [(c, o)], by rw [List.map_append]; rfl, by rw [List.map_append, hfl, List.take_add_one, hci]; rfl, fun p hp => by
        rcases List.mem_append.mp hp with hp | hp
        · exact hc p hp
        · rw [List.mem_singleton.mp hp]; exact ho⟩
    walk_at "go"
    rotate_left
    · rw [encF_len]; omega
    refine dt_val ?_
    walk_at "go"
    refine ⟨bar, rfl, fun hb => ?_, fun hb => ?_⟩
    · walk_at "go"
      refine ⟨3, rfl, ⟨by decide, by decide⟩, ?_⟩
      rintro _ ⟨z, rfl, _, _⟩
      walk_at "go"
      refine .eqS rfl ?_
      refine ⟨fun hz => ?_, fun hz => ?_⟩
      · walk_at "go"
        refine ⟨_, by walk_at "ss", ?_⟩
        walk_at "go"
        exact fin none (fun i h => by cases h)
      · walk_at "go"
        refine ⟨far, rfl, ⟨hf1, by omega⟩, ?_⟩
        rintro _ ⟨w, rfl, hw, hw2⟩
        walk_at "go"
        refine ⟨_, by walk_at "ss", ?_⟩
        walk_at "go"
        exact fin (some (1 + w)) (fun i h => by cases h; omega)
    · walk_at "go"
      refine ⟨far, rfl, ⟨hf1, by omega⟩, ?_⟩
      rintro _ ⟨w, rfl, hw, hw2⟩
      walk_at "go"
      refine ⟨_, by walk_at "ss", ?_⟩
      walk_at "go"
      exact fin (some (1 + w)) (fun i h => by cases h; omega)
  · rintro δ' ⟨x, fl, rfl, hfl, hc⟩
    have e : (chars (tx lt)).length = lt.length := by rw [chars_tx]; simp
    rw [e, List.take_length] at hfl
    refine db_freezeL (by walk_at "gt") ⟨_, by walk_at "ss", ?_⟩ S.nd
    walk_at "go"
    refine bw_tupleL ⟨fl, rfl, ⟨by rw [hfl]; exact lta, fun p hp => ?_, ?_, ?_⟩, ?_⟩
    · have := ltw p.1 (by rw [← hfl]; exact List.mem_map.mpr ⟨p, hp, rfl⟩)
      exact ⟨this.1, this.2, hc p hp⟩
    · have := congrArg List.length hfl
      rw [List.length_map] at this
      omega
    · have := congrArg List.length hfl
      rw [List.length_map] at this
      omega
    · have := congrArg List.length hfl
      rw [List.length_map] at this
      omega
end

section
variable {M : Md} {k : Nat}
theorem ok_lturns {f : Addr} {fd : FuncData} (F : Fun M.K "_law_turns" "_law_turns" s_lturns f fd) :
    FnOk M.P M.w M.K M.mg M.base CX0 (k + 1) f fd ["_law_floor_here"] (SpD M.K [true] (fun fl : Floor => [encF fl]) FloorOk (fun fl d => d = .str (tx (turnsF fl)))) := by
  refine fn_ok F S_lturns rfl fun X S fl hf => ?_
  show DB X _ [some (.d (encF fl)), none, none, none] _ _ _ _
  have hl := hf.len
  walk_at "go"
  refine de_meth PySem.F.plainAttrs_str PySem.F.slot_str_join PySem.F.type_str_join ?_
  walk_at "go"
  refine ⟨tyw_str, ?_⟩
  walk_at "go"
  refine de_lc1 S (di_tup ?_) (by walk_at "dk")
  walk_at "go"
  refine ⟨_, rfl, ?_⟩
  refine lc_map (f := fun p : Nat × Option Int => sg p.1) (by walk_at "wp") (by omega) (fun X1 S1 p hp => ?_) ?_
  · refine dg_tup S1 (dgs_cons (dg_name S1 (by walk_at "dk") ⟨_, by walk_at "ss", dgs_cons (dg_name S1 (by walk_at "dk") ⟨_, by walk_at "ss", dgs_nil fun X2 S2 => ?_⟩)⟩))
    walk_at "go"
    rfl
  · walk_at "go"
    have e : (fl.map fun p => sg p.1) = (lets fl).map sg := by simp [lets]
    rw [e]
    refine joinR (lets fl) (by simp [lets]; omega) ?_
    refine ⟨_, by walk_at "ss", ?_⟩
    walk_at "go"
    refine de_meth0 PySem.F.plainAttrs_str PySem.F.slot_str_upper PySem.F.type_str_upper ?_
    walk_at "go"
    refine ⟨tyw_str, mw_upper (by rw [len_tx]; simp [lets]; omega) ?_⟩
    have e2 : Txt.upper (tx (lets fl)) = tx ((lets fl).map (· - 32)) := upper_tx _ fun c hc => by
      obtain ⟨p, hp, rfl⟩ := List.mem_map.mp hc
      have := hf.ok p hp
      exact ⟨this.1, this.2.1⟩
    rw [e2]
    walk_at "go"
    · rw [app_tx]
      rfl
    · rw [len_tx, len_tx]
      refine sl1 ?_
      simp [lets]
      omega
theorem ok_lrow {f : Addr} {fd : FuncData} (F : Fun M.K "_law_row" "_law_row" s_lrow f fd) (cD : DrawC M k) (cO : OfC M k) (cT : TurnsC M k) (cU : LUndoesC M k) (ml : M.mg "len" = none) (mr : M.mg "range" = none) :
    FnOk M.P M.w M.K M.mg M.base CX0 (k + 1) f fd ["_law_draws_here", "_law_floor_here", "_law_many"] (SpD M.K [true, true, true] (fun p : Floor × Int => [.drw, encF p.1, .int p.2]) (fun p => FloorOk p.1 ∧ 0 ≤ p.2 ∧ p.2 ≤ 1000) (fun p d => ∃ r, d = .str (tx r) ∧ RowOf p.1 r ∧ (r.length : Int) ≤ p.2)) := by
  refine fn_ok F S_lrow rfl fun X S ⟨fl, n⟩ ⟨hf, hn, hn2⟩ => ?_
  dsimp only at hf hn hn2 ⊢
  show DB X _ [some (.d .drw), some (.d (encF fl)), some (.d (.int n)), none, none, none, none, none, none, none, none] _ _ _ _
  have hfl := hf.len
  have hfp := hf.pos
  have htl := turnsF_len fl
  walk_at "go"
  refine ⟨fl, rfl, hf, ?_⟩
  rintro _ rfl
  walk_at "go"
  refine ⟨_, _, by walk_at "ss", by walk_at "ss", ?_⟩
  walk_at "go"
  refine ⟨3, rfl, ⟨by decide, by decide⟩, ?_⟩
  rintro _ ⟨way, rfl, _, _⟩
  refine ⟨_, by walk_at "ss", ?_⟩
  refine db_cons (ds_for S (di_range1 S mr (by walk_at "dk") ?_))
  walk_at "go"
  refine ⟨n + 1, rfl, ⟨by omega, by omega⟩, ?_⟩
  rintro _ ⟨many, rfl, hm0, hm1⟩
  refine ⟨many, rfl, by omega, by omega, ?_⟩
  refine ⟨fun i δ => ∃ (r : List Nat) (a b c d e : Option SD), δ = [some (.d .drw), some (.d (encF fl)), some (.d (.int n)), some (.d (.str (tx (turnsF fl)))), some (.d (.str (tx r))), some (.d (.int way)), a, b, c, d, e] ∧ RowOf fl r ∧ (r.length : Int) ≤ n,
    ⟨[], none, none, none, none, none, rfl, (fun c hc => by cases hc), by simpa using hn⟩, ?_, ?_⟩
  · rintro i d δ' hi ⟨r, a, b, c, d, e, rfl, hr, hrl⟩
    obtain ⟨_, rfl⟩ := rangeD_get hi
    refine ⟨_, dg_name S (by walk_at "dk") ⟨_, by walk_at "ss", ?_⟩⟩
    walk_at "go"
    refine ⟨_, rfl, .inr ⟨turnsF fl, rfl, by omega, by omega⟩, ?_⟩
    rintro d ⟨_, hd⟩
    obtain ⟨c, hc, rfl⟩ := hd _ rfl
    refine ⟨_, by walk_at "ss", ?_⟩
    walk_at "go"
    refine bw_lenS (by rw [len_tx]; exact sl1 (by omega)) ?_
    rw [len_tx]
    walk_at "go"
    refine ⟨_, rfl, by omega, ?_⟩
    rintro _ ⟨at_, rfl, ha0, ha1⟩
    refine ⟨_, by walk_at "ss", ?_⟩
    have hT := turnsF_T hf hc
    have hcr : RowOf fl [c] := fun z hz => by rw [List.mem_singleton.mp hz]; exact hc
    have hur : RowOf fl [und c] := fun z hz => by rw [List.mem_singleton.mp hz]; exact turnsF_und hf hc
    have htk : ∀ j, RowOf fl (r.take j) := fun j z hz => hr z (List.mem_of_mem_take hz)
    have hdr : ∀ j, RowOf fl (r.drop j) := fun j z hz => hr z (List.mem_of_mem_drop hz)
    have hS : ∀ l : List Nat, (l.length : Int) ≤ 2000 → (tx l).length ≤ sizeLine := fun l hl => by rw [len_tx]; exact sl1 (by omega)
    walk_at "go"
    refine .eqS rfl ⟨fun hw => ?_, fun hw => ?_⟩
    · walk_at "go"
      refine bw_lenS (hS r (by omega)) ?_
      rw [len_tx]
      walk_at "go"
      refine .le ⟨fun h2 => ?_, fun h2 => ?_⟩
      · have h3 := of_decide_eq_true h2
        walk_at "go"
        refine bw_lenS (hS r (by omega)) ?_
        rw [len_tx]
        walk_at "go"
        refine ⟨_, rfl, ⟨by omega, by omega⟩, ?_⟩
        rintro _ ⟨sp, rfl, hs0, hs1⟩
        walk_at "go"
        refine ⟨_, by walk_at "ss", ?_⟩
        walk_at "go"
        refine ⟨_, rfl, ?_⟩
        walk_at "go"
        refine ⟨_, rfl, .str (hS r (by omega)) ?_⟩
        rw [cut_mid r ha0 (by omega)]
        generalize hmid : (r.drop at_.toNat).take ((at_ + sp).toNat - at_.toNat) = mid
        have hml : mid.length = sp.toNat := by rw [← hmid, List.length_take, List.length_drop]; omega
        have hmr : RowOf fl mid := by rw [← hmid]; exact fun z hz => hdr _ z (List.mem_of_mem_take hz)
        walk_at "go"
        rotate_left
        · rw [len_tx, len_tx]; exact sl1 (by simp; omega)
        rw [app_tx]
        walk_at "go"
        refine ⟨c, rfl, hT, ?_⟩
        rintro _ rfl
        walk_at "go"
        rotate_left
        · rw [len_tx, len_tx]; exact sl1 (by simp; omega)
        rw [app_tx]
        refine ⟨_, by walk_at "ss", ?_⟩
        walk_at "go"
        refine ⟨_, rfl, .str (hS r (by omega)) ?_⟩
        rw [cut_to r ha0]
        walk_at "go"
        rotate_left
        · rw [len_tx, len_tx]; exact sl1 (by simp; omega)
        rw [app_tx]
        walk_at "go"
        refine ⟨_, rfl, .str (hS r (by omega)) ?_⟩
        rw [cut_from r (by omega)]
        walk_at "go"
        rotate_left
        · rw [len_tx, len_tx]; exact sl1 (by simp; omega)
        rw [app_tx]
        refine ⟨_, by walk_at "ss", ?_⟩
        walk_at "go"
        refine ⟨_, _, _, _, _, _, rfl, ((htk _).app ((hcr.app hmr).app hur)).app (hdr _), ?_⟩
        simp only [List.length_append, List.length_take, List.length_drop, List.length_singleton]
        omega
      · have h3 := of_decide_eq_false h2
        walk_at "go"
        refine bw_lenS (hS r (by omega)) ?_
        rw [len_tx]
        walk_at "go"
        refine .lt ⟨fun h4 => ?_, fun h4 => ?_⟩
        · have h5 := of_decide_eq_true h4
          walk_at "go"
          refine ⟨_, rfl, .str (hS r (by omega)) ?_⟩
          rw [cut_to r ha0]
          walk_at "go"
          rotate_left
          · rw [len_tx, len_tx]; exact sl1 (by simp; omega)
          rw [app_tx]
          walk_at "go"
          refine ⟨_, rfl, .str (hS r (by omega)) ?_⟩
          rw [cut_from r ha0]
          walk_at "go"
          rotate_left
          · rw [len_tx, len_tx]; exact sl1 (by simp; omega)
          rw [app_tx]
          refine ⟨_, by walk_at "ss", ?_⟩
          walk_at "go"
          refine ⟨_, _, _, _, _, _, rfl, ((htk _).app hcr).app (hdr _), ?_⟩
          simp only [List.length_append, List.length_take, List.length_drop, List.length_singleton]
          omega
        · walk_at "go"
          exact ⟨_, _, _, _, _, _, rfl, hr, hrl⟩
    · walk_at "go"
      refine bw_lenS (hS r (by omega)) ?_
      rw [len_tx]
      walk_at "go"
      refine .lt ⟨fun h4 => ?_, fun h4 => ?_⟩
      · have h5 := of_decide_eq_true h4
        walk_at "go"
        refine ⟨_, rfl, .str (hS r (by omega)) ?_⟩
        rw [cut_to r ha0]
        walk_at "go"
        rotate_left
        · rw [len_tx, len_tx]; exact sl1 (by simp; omega)
        rw [app_tx]
        walk_at "go"
        refine ⟨_, rfl, .str (hS r (by omega)) ?_⟩
        rw [cut_from r ha0]
        walk_at "go"
        rotate_left
        · rw [len_tx, len_tx]; exact sl1 (by simp; omega)
        rw [app_tx]
        refine ⟨_, by walk_at "ss", ?_⟩
        walk_at "go"
        refine ⟨_, _, _, _, _, _, rfl, ((htk _).app hcr).app (hdr _), ?_⟩
        simp only [List.length_append, List.length_take, List.length_drop, List.length_singleton]
        omega
      · walk_at "go"
        exact ⟨_, _, _, _, _, _, rfl, hr, hrl⟩
  · rintro δ' ⟨r, a, b, c, d, e, rfl, hr, hrl⟩
    walk_at "go"
    exact ⟨r, rfl, hr, hrl⟩
end

/-! ### mathematics: rows drawn tight -/
theorem und_und {c : Nat} (h : IsT c) : und (und c) = c := by
  unfold IsT at h
  unfold und
  split <;> split <;> omega
theorem und_eq {c d : Nat} (hc : IsT c) (h : c = und d) (hd : IsT d) : d = und c := by rw [h, und_und hd]
theorem und_ne {c : Nat} (h : IsT c) : und c ≠ c := by
  unfold IsT at h
  unfold und
  split <;> omega
def RedS : List Nat → Prop
  | x :: y :: r => y ≠ und x ∧ RedS (y :: r)
  | _ => True
theorem RedS.tail {x : Nat} {r : List Nat} (h : RedS (x :: r)) : RedS r := by
  cases r with
  | nil => trivial
  | cons y r => exact h.2
theorem RedS.right : ∀ {l m : List Nat}, RedS (l ++ m) → RedS m
  | [], _, h => h
  | x :: l, m, h => RedS.right (l := l) h.tail
theorem RedS.cons {c : Nat} {st : List Nat} (h : RedS st) (hc : ∀ t r, st = t :: r → t ≠ und c) : RedS (c :: st) := by
  cases st with
  | nil => trivial
  | cons t r => exact ⟨hc t r rfl, h⟩
theorem step_red {st : List Nat} {c : Nat} (h : RedS st) : RedS (stepT st c) := by
  unfold stepT
  split
  · trivial
  · split
    · exact h.tail
    · rename_i t r hne
      exact h.cons fun t' r' e => by cases e; exact hne
theorem step_cancel {st : List Nat} {c : Nat} (h : RedS st) (hr : Row st) (hc : IsT c) : stepT (stepT st c) (und c) = st := by
  have huu := und_und hc
  cases st with
  | nil => simp [stepT, huu]
  | cons t r =>
    by_cases e : t = und c
    · subst e
      cases r with
      | nil => simp [stepT]
      | cons t2 r2 =>
        have h2 : t2 ≠ und (und c) := h.1
        simp [stepT]
        intro hh
        exact absurd hh h2
    · simp [stepT, e, huu]
theorem step_cancel2 {st : List Nat} {c d : Nat} (h : RedS st) (hr : Row st) (hc : IsT c) (hd : IsT d) (e : c = und d) : stepT (stepT st c) d = st := by
  rw [und_eq hc e hd]
  exact step_cancel h hr hc
theorem fold_red : ∀ {r st : List Nat}, RedS st → RedS (r.foldl stepT st)
  | [], _, h => h
  | c :: r, st, h => fold_red (r := r) (step_red h)
theorem red_nil : RedS [] := trivial
theorem row_nil : Row [] := fun _ z => by cases z
theorem tightR_red (r : List Nat) : RedS (tightR r) := fold_red (r := r) red_nil
theorem tightR_row {r : List Nat} (h : Row r) : Row (tightR r) := foldT_row h (fun _ z => by cases z)
/-- two that undo one another may go -/
theorem tightR_cut {a b : List Nat} {c d : Nat} (ha : Row a) (hc : IsT c) (hd : IsT d) (e : c = und d) : tightR (a ++ c :: d :: b) = tightR (a ++ b) := by
  unfold tightR
  rw [List.foldl_append, List.foldl_append, List.foldl_cons, List.foldl_cons, step_cancel2 (fold_red (r := a) red_nil) (foldT_row ha (fun _ z => by cases z)) hc hd e]
theorem tight_cut {a b : List Nat} {c d : Nat} (ha : Row a) (hc : IsT c) (hd : IsT d) (e : c = und d) : tight (a ++ c :: d :: b) = tight (a ++ b) := by
  unfold tight
  rw [tightR_cut ha hc hd e]
theorem fold_of_red : ∀ {r st : List Nat}, RedS (r.reverse ++ st) → r.foldl stepT st = r.reverse ++ st
  | [], _, _ => rfl
  | c :: r, st, h => by
    have h : RedS (r.reverse ++ (c :: st)) := by rw [List.reverse_cons, List.append_assoc] at h; exact h
    have h1 : RedS (c :: st) := RedS.right h
    have e : stepT st c = c :: st := by
      cases st with
      | nil => rfl
      | cons t s => simp [stepT, h1.1]
    rw [List.foldl_cons, e, fold_of_red (r := r) h, List.reverse_cons, List.append_assoc]
    rfl
theorem tight_of_red {r : List Nat} (h : RedS r.reverse) : tight r = r := by
  unfold tight tightR
  rw [fold_of_red (by simpa using h)]
  simp
theorem tight_red (r : List Nat) : RedS (tight r).reverse := by
  unfold tight
  rw [List.reverse_reverse]
  exact tightR_red r
theorem tight_tight (r : List Nat) : tight (tight r) = tight r := tight_of_red (tight_red r)
/-- no two side by side that undo one another -/
def adj (r : List Nat) (i : Nat) : Bool := match r[i]?, r[i + 1]? with
  | some x, some y => x == und y
  | _, _ => false
theorem adj_lt {r : List Nat} {i : Nat} (h : adj r i = true) : i + 1 < r.length := by
  unfold adj at h
  cases e1 : r[i]? with
  | none => rw [e1] at h; cases h
  | some x =>
    cases e2 : r[i + 1]? with
    | none => rw [e1, e2] at h; cases h
    | some y => exact (List.getElem?_eq_some_iff.mp e2).1
theorem adj_split {r : List Nat} {i : Nat} (h : adj r i = true) : ∃ c d, r = r.take i ++ c :: d :: r.drop (i + 2) ∧ c = und d := by
  have hl := adj_lt h
  refine ⟨r[i], r[i + 1], ?_, ?_⟩
  · rw [← List.drop_eq_getElem_cons (by omega), ← List.drop_eq_getElem_cons (by omega), List.take_append_drop]
  · unfold adj at h
    rw [List.getElem?_eq_getElem (by omega), List.getElem?_eq_getElem hl] at h
    simpa using h
theorem red_of_adj : ∀ {r : List Nat}, Row r → (∀ i, adj r i = false) → RedS r
  | [], _, _ => trivial
  | [x], _, _ => trivial
  | x :: y :: r, hr, h => by
    refine ⟨fun e => ?_, red_of_adj (r := y :: r) (fun c hc => hr c (List.mem_cons_of_mem _ hc)) fun i => ?_⟩
    · have h0 := h 0
      have hx := hr x List.mem_cons_self
      simp [adj, e, und_und hx] at h0
    · have := h (i + 1)
      simpa [adj] using this
theorem RedS.app_one : ∀ {l : List Nat} {c : Nat}, RedS l → Row l → IsT c → (∀ t, l.getLast? = some t → t ≠ und c) → RedS (l ++ [c])
  | [], _, _, _, _, _ => trivial
  | [x], c, _, hr, hc, hl => ⟨fun e => hl x rfl (und_eq hc e (hr x List.mem_cons_self)), trivial⟩
  | x :: y :: r, c, h, hr, hc, hl => ⟨h.1, RedS.app_one (l := y :: r) h.2 (fun c hc => hr c (List.mem_cons_of_mem _ hc)) hc fun t ht => hl t (by simpa using ht)⟩
theorem red_rev : ∀ {r : List Nat}, Row r → RedS r → RedS r.reverse
  | [], _, _ => trivial
  | x :: r, hr, h => by
    rw [List.reverse_cons]
    have hr' : Row r := fun c hc => hr c (List.mem_cons_of_mem _ hc)
    refine (red_rev hr' h.tail).app_one (fun c hc => hr' c (List.mem_reverse.mp hc)) (hr x List.mem_cons_self) fun t ht => ?_
    rw [List.getLast?_reverse] at ht
    cases r with
    | nil => cases ht
    | cons y s =>
      cases ht
      exact h.1
theorem tight_of_adj {r : List Nat} (hr : Row r) (h : ∀ i, adj r i = false) : tight r = r := tight_of_red (red_rev hr (red_of_adj hr h))
theorem red_rev' {r : List Nat} (hr : Row r) (h : RedS r.reverse) : RedS r := by
  have := red_rev (r := r.reverse) (fun c hc => hr c (List.mem_reverse.mp hc)) h
  rwa [List.reverse_reverse] at this
theorem adj_of_red : ∀ {r : List Nat}, Row r → RedS r → ∀ i, adj r i = false
  | [], _, _, i => by simp [adj]
  | [x], _, _, i => by cases i <;> simp [adj]
  | x :: y :: r, hr, h, 0 => by
    have hy := hr y (List.mem_cons_of_mem _ List.mem_cons_self)
    have hx := hr x List.mem_cons_self
    simp only [adj, List.getElem?_cons_zero, List.getElem?_cons_succ]
    simp
    intro e
    exact h.1 (und_eq hx e hy)
  | x :: y :: r, hr, h, i + 1 => by
    have := adj_of_red (r := y :: r) (fun c hc => hr c (List.mem_cons_of_mem _ hc)) h.2 i
    simpa [adj] using this
theorem tight_adj {r : List Nat} (hr : Row r) : ∀ i, adj (tight r) i = false := adj_of_red (tight_row hr) (red_rev' (tight_row hr) (tight_red r))
/-- parts drawn tight first -/
theorem fold_tight {st : List Nat} (hs : RedS st) (hsr : Row st) : ∀ {r : List Nat}, Row r → (tight r).foldl stepT st = r.foldl stepT st := by
  suffices H : ∀ (r t : List Nat), Row r → Row t → RedS t → (r.foldl stepT t).reverse.foldl stepT st = r.foldl stepT (t.reverse.foldl stepT st) from fun {r} hr => H r [] hr (fun _ z => by cases z) trivial
  intro r
  induction r with
  | nil => intro t _ _ _; rfl
  | cons c r ih =>
    intro t hr ht hred
    have hc := hr c List.mem_cons_self
    have hr' : Row r := fun d hd => hr d (List.mem_cons_of_mem _ hd)
    rw [List.foldl_cons, ih (stepT t c) hr' (stepT_row ht hc) (step_red hred), List.foldl_cons]
    congr 1
    cases t with
    | nil => rfl
    | cons x s =>
      unfold stepT
      dsimp only
      split
      · rename_i e
        rw [List.reverse_cons, List.foldl_append]
        have hx := ht x List.mem_cons_self
        have hs2 : Row s := fun d hd => ht d (List.mem_cons_of_mem _ hd)
        have := step_cancel2 (st := s.reverse.foldl stepT st) (c := x) (d := c) (fold_red (r := s.reverse) hs) (foldT_row (fun d hd => hs2 d (List.mem_reverse.mp hd)) hsr) hx hc e
        exact this.symm
      · rw [List.reverse_cons, List.foldl_append]
        rfl
theorem tight_parts {a b : List Nat} (ha : Row a) (hb : Row b) : tight (tight a ++ tight b) = tight (a ++ b) := by
  unfold tight tightR
  congr 1
  rw [List.foldl_append, List.foldl_append]
  have e1 := fold_tight (st := []) trivial (fun _ z => by cases z) ha
  have e2 : (tight a).foldl stepT [] = a.foldl stepT [] := e1
  show ((b.foldl stepT []).reverse).foldl stepT ((tight a).foldl stepT []) = _
  rw [e2]
  exact fold_tight (fold_red (r := a) red_nil) (foldT_row ha (fun _ z => by cases z)) hb
theorem back_row {r : List Nat} (h : Row r) : Row (back r) := fun c hc => by
  unfold back at hc
  rw [List.mem_reverse] at hc
  obtain ⟨d, hd, rfl⟩ := List.mem_map.mp hc
  exact und_T (h d hd)
theorem back_len (r : List Nat) : (back r).length = r.length := by simp [back]
theorem back_back {r : List Nat} (h : Row r) : back (back r) = r := by
  unfold back
  rw [List.map_reverse, List.reverse_reverse, List.map_map]
  have : r.map (und ∘ und) = r.map id := List.map_congr_left fun c hc => und_und (h c hc)
  rw [this, List.map_id]
theorem back_app (a b : List Nat) : back (a ++ b) = back b ++ back a := by simp [back]
theorem tight_back_self : ∀ {r : List Nat}, Row r → ∀ s, Row s → tight (s ++ (r ++ back r)) = tight s
  | [], _, s, _ => by simp [back]
  | c :: r, hr, s, hs => by
    have hc := hr c List.mem_cons_self
    have hr' : Row r := fun d hd => hr d (List.mem_cons_of_mem _ hd)
    have e : s ++ (c :: r ++ back (c :: r)) = (s ++ [c]) ++ (r ++ back r) ++ [und c] := by simp [back]
    have ih := tight_back_self hr' (s ++ [c]) (fun d hd => (List.mem_append.mp hd).elim (hs d) fun z => by rw [List.mem_singleton.mp z]; exact hc)
    rw [e]
    have h1 : tightR ((s ++ [c]) ++ (r ++ back r)) = tightR (s ++ [c]) := by
      have := congrArg List.reverse ih
      unfold tight at this
      simpa using this
    have h2 : tightR ((s ++ [c]) ++ (r ++ back r) ++ [und c]) = tightR s := by
      show List.foldl stepT [] _ = _
      rw [List.foldl_append]
      show List.foldl stepT (tightR ((s ++ [c]) ++ (r ++ back r))) [und c] = _
      rw [h1]
      unfold tightR
      rw [List.foldl_append]
      exact step_cancel (fold_red (r := s) red_nil) (foldT_row hs (fun _ z => by cases z)) hc
    unfold tight
    rw [h2]
theorem tight_self_back {r : List Nat} (h : Row r) : tight (r ++ back r) = [] := by
  have := tight_back_self h [] row_nil
  exact this.trans rfl
theorem tight_back {r : List Nat} (h : Row r) : tight (back r) = back (tight r) := by
  -- tight (back r) and back (tight r) are both tight and equal after drawing tight
  have hr := tight_row h
  have hb : tight (back (tight r)) = back (tight r) := by
    refine tight_of_adj (back_row hr) fun i => ?_
    cases e : adj (back (tight r)) i with
    | false => rfl
    | true =>
      obtain ⟨c, d, hs, hcd⟩ := adj_split e
      exfalso
      have hrow := back_row hr
      have hc : IsT c := hrow c (by rw [hs]; simp)
      have hd : IsT d := hrow d (by rw [hs]; simp)
      have e2 := congrArg back hs
      rw [back_back hr] at e2
      generalize (back (tight r)).take i = A at e2
      generalize (back (tight r)).drop (i + 2) = B at e2
      have e3 : tight r = back B ++ und d :: und c :: back A := by
        rw [e2]
        simp [back]
      have hno := tight_adj h (back B).length
      rw [e3] at hno
      unfold adj at hno
      simp at hno
      exact hno (by rw [und_und hc, hcd])
  rw [← hb]
  -- draw r tight within back r, by pairs
  suffices H : ∀ (r : List Nat), Row r → ∀ t, Row t → RedS t → tight (back (t.reverse ++ r)) = tight (back ((r.foldl stepT t).reverse)) from H r h [] (fun _ z => by cases z) trivial
  intro r
  induction r with
  | nil => intro _ t _ _; simp
  | cons c r ih =>
    intro hr t ht hred
    have hc := hr c List.mem_cons_self
    have hr' : Row r := fun d hd => hr d (List.mem_cons_of_mem _ hd)
    rw [List.foldl_cons, ← ih hr' (stepT t c) (stepT_row ht hc) (step_red hred)]
    cases t with
    | nil => rfl
    | cons x s =>
      unfold stepT
      dsimp only
      split
      · rename_i e
        have hx := ht x List.mem_cons_self
        have e1 : back ((x :: s).reverse ++ c :: r) = back r ++ und c :: und x :: back s.reverse := by simp [back]
        have e2 : back (s.reverse ++ r) = back r ++ back s.reverse := by simp [back]
        rw [e1, e2]
        exact tight_cut (back_row hr') (und_T hc) (und_T hx) (by rw [und_und hx, e])
      · rw [List.reverse_cons (a := c), List.append_assoc]
        rfl

section
variable {M : Md} {k : Nat}
theorem at_tx {X : Cx} {Φ : Da → Prop} {r : List Nat} {i : Int} {j c : Nat} (hl : r.length ≤ 100000) (hi : i = j) (hc : r[j]? = some c) (h : Φ (sg c)) : IxW Φ (.str (tx r)) (.int i) := by
  subst hi
  exact .str (by rw [len_tx]; exact sl1 (by omega)) (atI_nat hc) h
end

abbrev LBackC (M : Md) (k : Nat) : Prop := Cal M k "_law_back" [true] (fun r : List Nat => [.str (tx r)]) (fun r => Row r ∧ r.length ≤ 100000) (fun r d => d = .str (tx (back r)))
section
variable {M : Md} {k : Nat}
theorem ok_lback {f : Addr} {fd : FuncData} (F : Fun M.K "_law_back" "_law_back" s_lback f fd) (cU : LUndoesC M k) :
    FnOk M.P M.w M.K M.mg M.base CX0 (k + 1) f fd ["_law_row_here"] (SpD M.K [true] (fun r : List Nat => [.str (tx r)]) (fun r => Row r ∧ r.length ≤ 100000) (fun r d => d = .str (tx (back r)))) := by
  refine fn_ok F S_lback rfl fun X S r ⟨hr, hl⟩ => ?_
  show DB X _ [some (.d (.str (tx r))), none] _ _ _ _
  walk_at "go"
  refine de_meth PySem.F.plainAttrs_str PySem.F.slot_str_join PySem.F.type_str_join ?_
  walk_at "go"
  refine ⟨tyw_str, ?_⟩
  walk_at "go"
  refine de_lc1 S (di_str ?_) (by walk_at "dk")
  walk_at "go"
  refine .str (by rw [len_tx]; exact sl1 (by omega)) ⟨_, rfl, ?_⟩
  rw [toList_tx, chars_tx]
  refine lc_map (f := fun c => sg (und c)) (by walk_at "wp") (by simp; omega) (fun X1 S1 c hc => ?_) ?_
  · have hT := hr c (List.mem_reverse.mp hc)
    refine dg_name S1 (by walk_at "dk") ⟨_, by walk_at "ss", fun X2 S2 => ?_⟩
    walk_at "go"
    exact ⟨c, rfl, hT, fun d hd => hd⟩
  · walk_at "go"
    have e : (r.reverse.map fun c => sg (und c)) = (back r).map sg := by simp [back]
    rw [e]
    exact joinR (back r) (by simp [back]; omega) rfl
end

/-! ### mathematics: what it costs to make a row bare -/
/-- costs as they may be: each at least 1, alike for turns that undo one another -/
structure WOk (w : Nat → Option Int) : Prop where
  pos : ∀ c x, w c = some x → 1 ≤ x
  sym : ∀ c, IsT c → w (und c) = w c
inductive Cst (w : Nat → Option Int) : List Nat → Int → Prop
  | nil : Cst w [] 0
  | del {c : Nat} {r : List Nat} {x n : Int} : IsT c → w c = some x → Cst w r n → Cst w (c :: r) (x + n)
  | pair {c : Nat} {a b : List Nat} {m n : Int} : IsT c → Cst w a m → Cst w b n → Cst w (c :: (a ++ und c :: b)) (m + n)
theorem row_app2 {a b : List Nat} (ha : Row a) (hb : Row b) : Row (a ++ b) := fun c hc => (List.mem_append.mp hc).elim (ha c) (hb c)
section
variable {w : Nat → Option Int}
theorem Cst.to {r s : List Nat} {n m : Int} (h : Cst w r n) (e : r = s) (e2 : n = m) : Cst w s m := e ▸ e2 ▸ h
theorem Cst.row {r : List Nat} {n : Int} (h : Cst w r n) : Row r := by
  induction h with
  | nil => exact row_nil
  | del hc _ _ ih => exact fun z hz => (List.mem_cons.mp hz).elim (fun e => e ▸ hc) (ih z)
  | pair hc _ _ ih1 ih2 =>
    intro z hz
    rcases List.mem_cons.mp hz with e | hz
    · exact e ▸ hc
    · rcases List.mem_append.mp hz with hz | hz
      · exact ih1 z hz
      · rcases List.mem_cons.mp hz with e | hz
        · exact e ▸ und_T hc
        · exact ih2 z hz
theorem Cst.nonneg (W : WOk w) {r : List Nat} {n : Int} (h : Cst w r n) : 0 ≤ n := by
  induction h with
  | nil => exact Int.le_refl _
  | del _ hx _ ih => have := W.pos _ _ hx; omega
  | pair _ _ _ ih1 ih2 => omega
theorem Cst.app {a b : List Nat} {m n : Int} (ha : Cst w a m) (hb : Cst w b n) : Cst w (a ++ b) (m + n) := by
  induction ha with
  | nil => exact hb.to rfl (by omega)
  | del hc hx _ ih => exact (Cst.del hc hx ih).to rfl (by omega)
  | pair hc h1 _ _ ih2 => exact (Cst.pair hc h1 ih2).to (by simp) (by omega)
theorem Cst.one {c : Nat} {x : Int} (hc : IsT c) (hx : w c = some x) : Cst w [c] x := (Cst.del hc hx .nil).to rfl (by omega)
theorem Cst.two {c : Nat} (hc : IsT c) : Cst w [c, und c] 0 := (Cst.pair hc .nil .nil).to rfl rfl
/-- something laid in at any place -/
theorem Cst.ins {t : List Nat} {k : Int} (ht : Cst w t k) : ∀ {s : List Nat} {n : Int}, Cst w s n → ∀ {p q : List Nat}, s = p ++ q → Cst w (p ++ (t ++ q)) (n + k) := by
  intro s n h
  induction h with
  | nil =>
    intro p q e
    obtain ⟨rfl, rfl⟩ := List.append_eq_nil_iff.mp e.symm
    exact ht.to (by simp) (by omega)
  | del hc hx h ih =>
    intro p q e
    cases p with
    | nil => exact (ht.app (Cst.del hc hx h)).to (by rw [e]; rfl) (by omega)
    | cons y p =>
      obtain ⟨ey, e0⟩ := List.cons.inj (show _ :: _ = _ :: (p ++ _) from e)
      clear e
      subst ey
      have e := e0
      exact (Cst.del hc hx (ih e)).to rfl (by omega)
  | @pair c a b m n hc h1 h2 ih1 ih2 =>
    intro p q e
    cases p with
    | nil => exact (ht.app (Cst.pair hc h1 h2)).to (by rw [e]; rfl) (by omega)
    | cons y p =>
      obtain ⟨ey, e0⟩ := List.cons.inj (show _ :: _ = _ :: (p ++ _) from e)
      clear e
      subst ey
      have e := e0
      rcases List.append_eq_append_iff.mp e with ⟨z, e1, e2⟩ | ⟨z, e1, e2⟩
      · cases z with
        | nil =>
          rw [List.append_nil] at e1
          subst e1
          have e2 : und c :: b = q := e2
          exact (Cst.pair hc (h1.app ht) h2).to (by rw [← e2]; simp) (by omega)
        | cons y z =>
          obtain ⟨ey, e3⟩ := List.cons.inj (show _ :: _ = _ :: (z ++ _) from e2)
          clear e2
          subst ey
          have e2 := e3
          subst e1
          exact (Cst.pair hc h1 (ih2 e2)).to (by simp) (by omega)
      · subst e2
        exact (Cst.pair hc (ih1 e1) h2).to (by simp) (by omega)
/-- one turn looked at: left out, or with one ahead, or with one behind -/
def Seen (w : Nat → Option Int) (p : List Nat) (x : Nat) (q : List Nat) (n : Int) : Prop :=
  (∃ v m, w x = some v ∧ Cst w (p ++ q) m ∧ n = v + m) ∨
  (∃ p1 p2 m1 m2, p = p1 ++ und x :: p2 ∧ Cst w p2 m1 ∧ Cst w (p1 ++ q) m2 ∧ n = m1 + m2) ∨
  (∃ q1 q2 m1 m2, q = q1 ++ und x :: q2 ∧ Cst w q1 m1 ∧ Cst w (p ++ q2) m2 ∧ n = m1 + m2)
theorem Cst.seen : ∀ {s : List Nat} {n : Int}, Cst w s n → ∀ {p q : List Nat} {x : Nat}, s = p ++ x :: q → Seen w p x q n := by
  intro s n h
  induction h with
  | nil => intro p q x e; simp at e
  | @del c r v n hc hx h ih =>
    intro p q x e
    cases p with
    | nil =>
      obtain ⟨rfl, rfl⟩ := List.cons.inj e
      exact .inl ⟨v, n, hx, h, rfl⟩
    | cons y p =>
      obtain ⟨ey, e0⟩ := List.cons.inj (show _ :: _ = _ :: (p ++ _) from e)
      clear e
      subst ey
      have e := e0
      rcases ih e with ⟨u, m, hu, h1, rfl⟩ | ⟨p1, p2, m1, m2, rfl, h1, h2, rfl⟩ | ⟨q1, q2, m1, m2, rfl, h1, h2, rfl⟩
      · exact .inl ⟨u, v + m, hu, Cst.del hc hx h1, by omega⟩
      · exact .inr (.inl ⟨c :: p1, p2, m1, v + m2, rfl, h1, Cst.del hc hx h2, by omega⟩)
      · exact .inr (.inr ⟨q1, q2, m1, v + m2, rfl, h1, Cst.del hc hx h2, by omega⟩)
  | @pair c a b m n hc h1 h2 ih1 ih2 =>
    intro p q x e
    cases p with
    | nil =>
      obtain ⟨rfl, rfl⟩ := List.cons.inj e
      exact .inr (.inr ⟨a, b, m, n, rfl, h1, h2, rfl⟩)
    | cons y p =>
      obtain ⟨ey, e0⟩ := List.cons.inj (show _ :: _ = _ :: (p ++ _) from e)
      clear e
      subst ey
      have e := e0
      have base : x = und c → q = b → p = a → Seen w (c :: p) x q (m + n) := fun e1 e2 e3 => by
        subst e1 e2 e3
        exact .inr (.inl ⟨[], p, m, n, by rw [und_und hc]; rfl, h1, h2, rfl⟩)
      rcases List.append_eq_append_iff.mp e with ⟨z, e1, e2⟩ | ⟨z, e1, e2⟩
      · cases z with
        | nil =>
          obtain ⟨e3, e4⟩ := List.cons.inj e2
          exact base e3.symm e4.symm (by simpa using e1)
        | cons y z =>
          obtain ⟨ey, e3⟩ := List.cons.inj (show _ :: _ = _ :: (z ++ _) from e2)
          clear e2
          subst ey
          have e2 := e3
          subst e1
          rcases ih2 e2 with ⟨u, k, hu, g1, rfl⟩ | ⟨p1, p2, m1, m2, rfl, g1, g2, rfl⟩ | ⟨q1, q2, m1, m2, rfl, g1, g2, rfl⟩
          · exact .inl ⟨u, m + k, hu, (Cst.pair hc h1 g1).to (by simp) rfl, by omega⟩
          · exact .inr (.inl ⟨c :: (a ++ und c :: p1), p2, m1, m + m2, by simp, g1, (Cst.pair hc h1 g2).to (by simp) rfl, by omega⟩)
          · exact .inr (.inr ⟨q1, q2, m1, m + m2, rfl, g1, (Cst.pair hc h1 g2).to (by simp) rfl, by omega⟩)
      · cases z with
        | nil =>
          obtain ⟨e3, e4⟩ := List.cons.inj e2
          exact base e3 e4 (by simpa using e1.symm)
        | cons y z =>
          obtain ⟨ey, e3⟩ := List.cons.inj (show _ :: _ = _ :: (z ++ _) from e2)
          clear e2
          subst ey
          have e2 := e3
          subst e2
          rcases ih1 e1 with ⟨u, k, hu, g1, rfl⟩ | ⟨p1, p2, m1, m2, rfl, g1, g2, rfl⟩ | ⟨q1, q2, m1, m2, rfl, g1, g2, rfl⟩
          · exact .inl ⟨u, k + n, hu, (Cst.pair hc g1 h2).to (by simp) rfl, by omega⟩
          · exact .inr (.inl ⟨c :: p1, p2, m1, m2 + n, rfl, g1, (Cst.pair hc g2 h2).to (by simp) rfl, by omega⟩)
          · exact .inr (.inr ⟨q1, q2 ++ und c :: b, m1, m2 + n, by simp, g1, (Cst.pair hc g2 h2).to (by simp) rfl, by omega⟩)
/-- one turn left out -/
theorem Cst.out (W : WOk w) {p q : List Nat} {x : Nat} {n v : Int} (h : Cst w (p ++ x :: q) n) (hv : w x = some v) : ∃ m, m ≤ n + v ∧ Cst w (p ++ q) m := by
  have hx : IsT x := h.row x (by simp)
  have hp := W.pos _ _ hv
  have hw : w (und x) = some v := (W.sym x hx).trans hv
  rcases h.seen rfl with ⟨u, m, hu, h1, rfl⟩ | ⟨p1, p2, m1, m2, rfl, h1, h2, rfl⟩ | ⟨q1, q2, m1, m2, rfl, h1, h2, rfl⟩
  · have := W.pos _ _ hu
    exact ⟨m, by omega, h1⟩
  · exact ⟨_, Int.le_of_eq (by omega), (Cst.ins (Cst.del (und_T hx) hw h1) h2 rfl).to (by simp) rfl⟩
  · exact ⟨_, Int.le_of_eq (by omega), (Cst.ins (h1.app (Cst.one (und_T hx) hw)) h2 rfl).to (by simp) rfl⟩
/-- one turn laid in -/
theorem Cst.put {p q : List Nat} {x : Nat} {n v : Int} (h : Cst w (p ++ q) n) (hx : IsT x) (hv : w x = some v) : Cst w (p ++ x :: q) (n + v) := (Cst.ins (Cst.one hx hv) h rfl).to (by simp) rfl
/-- the first turn goes to the end -/
theorem Cst.rot {q : List Nat} {x : Nat} {n : Int} (h : Cst w (x :: q) n) : Cst w (q ++ [x]) n := by
  have hx : IsT x := h.row x (by simp)
  rcases Cst.seen h (p := []) (q := q) (x := x) rfl with ⟨u, m, hu, h1, rfl⟩ | ⟨p1, p2, m1, m2, e, _⟩ | ⟨q1, q2, m1, m2, rfl, h1, h2, rfl⟩
  · exact (Cst.app (b := [x]) h1 (Cst.one hx hu)).to rfl (by omega)
  · simp at e
  · refine (h1.app (Cst.pair (b := []) (und_T hx) h2 .nil)).to ?_ (by omega)
    rw [und_und hx]
    simp
theorem Cst.rots : ∀ {a b : List Nat} {n : Int}, Cst w (a ++ b) n → Cst w (b ++ a) n
  | [], b, n, h => h.to (by simp) rfl
  | x :: a, b, n, h => by
    have h1 : Cst w (a ++ (b ++ [x])) n := (Cst.rot (q := a ++ b) h).to (by simp) rfl
    exact (Cst.rots h1).to (by simp) rfl
/-- two side by side that undo one another may go -/
theorem Cst.cut (W : WOk w) {a b : List Nat} {c d : Nat} {n : Int} (h : Cst w (a ++ c :: d :: b) n) (e : c = und d) : ∃ m, m ≤ n ∧ Cst w (a ++ b) m := by
  have hd : IsT d := h.row d (by simp)
  have hc : IsT c := h.row c (by simp)
  have ed : d = und c := und_eq hc e hd
  rcases h.seen rfl with ⟨u, m, hu, h1, rfl⟩ | ⟨p1, p2, m1, m2, rfl, h1, h2, rfl⟩ | ⟨q1, q2, m1, m2, e1, h1, h2, rfl⟩
  · have hp := W.pos _ _ hu
    have hv : w d = some u := by rw [ed, W.sym c hc, hu]
    obtain ⟨k, hk, h2⟩ := h1.out W hv
    exact ⟨k, by omega, h2⟩
  · have h3 := Cst.ins h1 (p := p1 ++ [d]) (q := b) h2 (by simp)
    exact ⟨_, Int.le_of_eq (by omega), h3.to (by rw [ed]; simp) rfl⟩
  · cases q1 with
    | nil =>
      obtain ⟨_, rfl⟩ := List.cons.inj e1
      have := h1.nonneg W
      exact ⟨m2, by omega, h2⟩
    | cons y q1 =>
      obtain ⟨rfl, rfl⟩ := List.cons.inj e1
      have h3 := Cst.ins h1.rot (p := a) (q := q2) h2 rfl
      exact ⟨_, Int.le_of_eq (by omega), h3.to (by rw [ed]; simp) rfl⟩
theorem Cst.uncut {a b : List Nat} {c d : Nat} {n : Int} (h : Cst w (a ++ b) n) (hc : IsT c) (hd : IsT d) (e : c = und d) : Cst w (a ++ c :: d :: b) n := by
  have := Cst.ins (Cst.two hc) h rfl
  rw [← und_eq hc e hd] at this
  exact this.to (by simp) (by omega)
theorem Cst.back (W : WOk w) {r : List Nat} {n : Int} (h : Cst w r n) : Cst w (back r) n := by
  induction h with
  | nil => exact .nil
  | del hc hx _ ih => exact (ih.app (Cst.one (und_T hc) ((W.sym _ hc).trans hx))).to (by simp [My.back]) (by omega)
  | @pair c a b m n hc _ _ ih1 ih2 =>
    refine (ih2.app (Cst.pair (b := []) hc ih1 .nil)).to ?_ (by omega)
    have e : My.back (c :: (a ++ und c :: b)) = My.back b ++ (und (und c) :: (My.back a ++ [und c])) := by simp [My.back]
    rw [e, und_und hc]
theorem Cst.cutMid (W : WOk w) : ∀ {t a b : List Nat} {n : Int}, Cst w (a ++ (t ++ (My.back t ++ b))) n → ∃ m, m ≤ n ∧ Cst w (a ++ b) m
  | [], a, b, n, h => ⟨n, Int.le_refl _, h.to (by simp [My.back]) rfl⟩
  | c :: t, a, b, n, h => by
    have hc : IsT c := h.row c (by simp)
    have h1 : Cst w ((a ++ [c]) ++ (t ++ (My.back t ++ (und c :: b)))) n := h.to (by simp [My.back]) rfl
    obtain ⟨m, hm, h2⟩ := Cst.cutMid W h1
    obtain ⟨k, hk, h3⟩ := Cst.cut W (a := a) (c := c) (d := und c) (b := b) (h2.to (by simp) rfl) (und_und hc).symm
    exact ⟨k, by omega, h3⟩
theorem Cst.selfBack : ∀ {t : List Nat}, Row t → Cst w (t ++ My.back t) 0
  | [], _ => .nil
  | c :: t, h => by
    have ih := Cst.selfBack (t := t) fun z hz => h z (List.mem_cons_of_mem _ hz)
    exact (Cst.pair (b := []) (h c List.mem_cons_self) ih .nil).to (by simp [My.back]) (by omega)
theorem Cst.uncutMid {t a b : List Nat} {n : Int} (ht : Row t) (h : Cst w (a ++ b) n) : Cst w (a ++ (t ++ (My.back t ++ b))) n :=
  (Cst.ins (Cst.selfBack ht) h rfl).to (by simp) (by omega)
/-- drawn tight -/
theorem Cst.fold (W : WOk w) : ∀ {r st : List Nat}, Row r → Row st → ∀ {n : Int}, (Cst w (st.reverse ++ r) n → ∃ m, m ≤ n ∧ Cst w (r.foldl stepT st).reverse m) ∧ (Cst w (r.foldl stepT st).reverse n → Cst w (st.reverse ++ r) n)
  | [], st, _, _, n => ⟨fun h => ⟨n, Int.le_refl _, h.to (by simp) rfl⟩, fun h => h.to (by simp) rfl⟩
  | c :: r, st, hr, hs, n => by
    have hc := hr c List.mem_cons_self
    have hr' : Row r := fun d hd => hr d (List.mem_cons_of_mem _ hd)
    have ih := fun n => Cst.fold W hr' (stepT_row hs hc) (n := n)
    rw [List.foldl_cons]
    have key : (Cst w (st.reverse ++ c :: r) n → ∃ m, m ≤ n ∧ Cst w ((stepT st c).reverse ++ r) m) ∧ (Cst w ((stepT st c).reverse ++ r) n → Cst w (st.reverse ++ c :: r) n) := by
      cases st with
      | nil => exact ⟨fun h => ⟨n, Int.le_refl _, h⟩, fun h => h⟩
      | cons x s =>
        have hx := hs x List.mem_cons_self
        unfold stepT
        dsimp only
        split
        · rename_i e
          exact ⟨fun h => Cst.cut W (a := s.reverse) (c := x) (d := c) (b := r) (h.to (by simp) rfl) e, fun h => (Cst.uncut h hx hc e).to (by simp) rfl⟩
        · exact ⟨fun h => ⟨n, Int.le_refl _, h.to (by simp) rfl⟩, fun h => h.to (by simp) rfl⟩
    refine ⟨fun h => ?_, fun h => key.2 ((ih n).2 h)⟩
    obtain ⟨m, hm, h1⟩ := key.1 h
    obtain ⟨k, hk, h2⟩ := (ih m).1 h1
    exact ⟨k, by omega, h2⟩
theorem Cst.tight (W : WOk w) {r : List Nat} {n : Int} (h : Cst w r n) : ∃ m, m ≤ n ∧ Cst w (My.tight r) m := (Cst.fold W (st := []) h.row row_nil).1 h
theorem Cst.untight (W : WOk w) {r : List Nat} (hr : Row r) {n : Int} (h : Cst w (My.tight r) n) : Cst w r n := (Cst.fold W (st := []) hr row_nil).2 h
theorem tight_mid {a b c : List Nat} (ha : Row a) (hb : Row b) (hc : Row c) (h : tight b = []) : tight (a ++ (b ++ c)) = tight (a ++ c) := by
  have h1 : tight (b ++ c) = tight c := by rw [← tight_parts hb hc, h, List.nil_append, tight_tight]
  rw [← tight_parts ha (row_app2 hb hc), h1, tight_parts ha hc]
theorem Cst.zero (W : WOk w) {r : List Nat} {n : Int} (h : Cst w r n) (hn : n ≤ 0) : My.tight r = [] := by
  induction h with
  | nil => rfl
  | del _ hx h _ => have := W.pos _ _ hx; have := h.nonneg W; omega
  | @pair c a b m n hc h1 h2 ih1 ih2 =>
    have n1 := h1.nonneg W
    have n2 := h2.nonneg W
    have hcr : Row [c] := fun z hz => by rw [List.mem_singleton.mp hz]; exact hc
    have hur : Row (und c :: b) := fun z hz => (List.mem_cons.mp hz).elim (fun e => e ▸ und_T hc) (h2.row z)
    have e1 := tight_mid (a := [c]) (c := und c :: b) hcr h1.row hur (ih1 (by omega))
    have e2 := tight_cut (a := []) (b := b) (c := c) (d := und c) row_nil hc (und_T hc) (und_und hc).symm
    show My.tight ([c] ++ (a ++ und c :: b)) = []
    rw [e1]
    exact e2.trans (ih2 (by omega))
theorem Cst.ofTight (W : WOk w) {r : List Nat} (hr : Row r) (h : My.tight r = []) : Cst w r 0 := Cst.untight W hr (by rw [h]; exact .nil)

/-! ### the least cost -/
def IsL (w : Nat → Option Int) (r : List Nat) : Option Int → Prop
  | none => ∀ n, ¬ Cst w r n
  | some n => Cst w r n ∧ ∀ m, Cst w r m → n ≤ m
theorem isL_ex (W : WOk w) (r : List Nat) : ∃ o, IsL w r o := by
  by_cases h : ∃ n, Cst w r n
  · obtain ⟨n, h⟩ := h
    have : ∀ k : Nat, ∀ n : Int, n.toNat ≤ k → Cst w r n → ∃ o, IsL w r o := by
      intro k
      induction k with
      | zero =>
        intro n hn h
        have := h.nonneg W
        exact ⟨some n, h, fun m hm => by have := hm.nonneg W; omega⟩
      | succ k ih =>
        intro n hn h
        by_cases h2 : ∃ m, Cst w r m ∧ m < n
        · obtain ⟨m, hm, hlt⟩ := h2
          have := hm.nonneg W
          exact ih m (by omega) hm
        · exact ⟨some n, h, fun m hm => by
            by_cases hlt : m < n
            · exact absurd ⟨m, hm, hlt⟩ h2
            · omega⟩
    exact this _ n (Nat.le_refl _) h
  · exact ⟨none, fun n hn => h ⟨n, hn⟩⟩
open Classical in
/-- the least cost of a row; none where it can't be made bare -/
@[irreducible] noncomputable def L (w : Nat → Option Int) (r : List Nat) : Option Int := if h : ∃ o, IsL w r o then choose h else none
theorem L_is (W : WOk w) (r : List Nat) : IsL w r (L w r) := by
  unfold L
  rw [dif_pos (isL_ex W r)]
  exact Classical.choose_spec (isL_ex W r)
theorem IsL.uniq {r : List Nat} {o o' : Option Int} (h : IsL w r o) (h' : IsL w r o') : o = o' := by
  cases o with
  | none =>
    cases o' with
    | none => rfl
    | some n => exact absurd h'.1 (h n)
  | some n =>
    cases o' with
    | none => exact absurd h.1 (h' n)
    | some m =>
      have := h.2 m h'.1
      have := h'.2 n h.1
      congr 1
      omega
/-- no more than: none stands for more than any -/
def Ole (a b : Option Int) : Prop := ∀ n, b = some n → ∃ m, a = some m ∧ m ≤ n
theorem Ole.refl (a : Option Int) : Ole a a := fun n h => ⟨n, h, Int.le_refl _⟩
theorem Ole.trans {a b c : Option Int} (h : Ole a b) (g : Ole b c) : Ole a c := fun n e => by
  obtain ⟨m, e1, l1⟩ := g n e
  obtain ⟨k, e2, l2⟩ := h m e1
  exact ⟨k, e2, by omega⟩
theorem Ole.anti {a b : Option Int} (h : Ole a b) (g : Ole b a) : a = b := by
  cases a with
  | none =>
    cases b with
    | none => rfl
    | some n => obtain ⟨m, e, _⟩ := h n rfl; cases e
  | some n =>
    obtain ⟨m, rfl, l1⟩ := g n rfl
    obtain ⟨k, e, l2⟩ := h m rfl
    cases e
    congr 1
    omega
def oplus : Option Int → Option Int → Option Int
  | some a, some b => some (a + b)
  | _, _ => none
theorem oplus_some {a b : Option Int} {n : Int} (h : oplus a b = some n) : ∃ x y, a = some x ∧ b = some y ∧ n = x + y := by
  cases a with
  | none => cases h
  | some x =>
    cases b with
    | none => cases h
    | some y => cases h; exact ⟨x, y, rfl, rfl, rfl⟩
theorem L_some (W : WOk w) {r : List Nat} {n : Int} (h : L w r = some n) : Cst w r n := by
  have := L_is W r
  rw [h] at this
  exact this.1
theorem L_le (W : WOk w) {r : List Nat} {n : Int} (h : Cst w r n) : ∃ m, L w r = some m ∧ m ≤ n := by
  have := L_is W r
  cases e : L w r with
  | none => rw [e] at this; exact absurd h (this n)
  | some m => rw [e] at this; exact ⟨m, rfl, this.2 n h⟩
theorem L_ole (W : WOk w) {r s : List Nat} (h : ∀ n, Cst w s n → ∃ m, m ≤ n ∧ Cst w r m) : Ole (L w r) (L w s) := fun n e => by
  obtain ⟨m, hm, hc⟩ := h n (L_some W e)
  obtain ⟨k, e2, l⟩ := L_le W hc
  exact ⟨k, e2, by omega⟩
theorem L_eq (W : WOk w) {r s : List Nat} (h : ∀ n, Cst w s n → ∃ m, m ≤ n ∧ Cst w r m) (g : ∀ n, Cst w r n → ∃ m, m ≤ n ∧ Cst w s m) : L w r = L w s := (L_ole W h).anti (L_ole W g)
theorem L_app (W : WOk w) (r s : List Nat) : Ole (L w (r ++ s)) (oplus (L w r) (L w s)) := fun n e => by
  obtain ⟨x, y, e1, e2, rfl⟩ := oplus_some e
  exact L_le W ((L_some W e1).app (L_some W e2))
theorem L_nil (W : WOk w) : L w [] = some 0 := by
  obtain ⟨m, e, l⟩ := L_le W (Cst.nil (w := w))
  have := (L_some W e).nonneg W
  rw [e]
  congr 1
  omega
theorem L_back (W : WOk w) {r : List Nat} (h : Row r) : L w (back r) = L w r := L_eq W (fun n hc => ⟨n, Int.le_refl _, hc.back W⟩) fun n hc => ⟨n, Int.le_refl _, by have := hc.back W; rwa [back_back h] at this⟩
theorem L_rots (W : WOk w) (a b : List Nat) : L w (a ++ b) = L w (b ++ a) := L_eq W (fun n hc => ⟨n, Int.le_refl _, hc.rots⟩) fun n hc => ⟨n, Int.le_refl _, hc.rots⟩
theorem L_tight (W : WOk w) {r : List Nat} (h : Row r) : L w (tight r) = L w r := L_eq W (fun n hc => hc.tight W) fun n hc => ⟨n, Int.le_refl _, hc.untight W h⟩
theorem L_mid (W : WOk w) {t a b : List Nat} (ht : Row t) : L w (a ++ (t ++ (back t ++ b))) = L w (a ++ b) := L_eq W (fun n hc => ⟨n, Int.le_refl _, hc.uncutMid ht⟩) fun n hc => hc.cutMid W
theorem L_mid2 (W : WOk w) {t a b : List Nat} (ht : Row t) : L w (a ++ (back t ++ (t ++ b))) = L w (a ++ b) := by
  have := L_mid W (a := a) (b := b) (back_row ht)
  rwa [back_back ht] at this
theorem L_zero (W : WOk w) {r : List Nat} (h : Row r) : L w r = some 0 ↔ tight r = [] := by
  refine ⟨fun e => (L_some W e).zero W (Int.le_refl _), fun e => ?_⟩
  rw [← L_tight W h, e]
  exact L_nil W
/-- the least of some -/
def IsMin (xs : List (Option Int)) : Option Int → Prop
  | none => ∀ x ∈ xs, x = none
  | some n => some n ∈ xs ∧ ∀ m, some m ∈ xs → n ≤ m
theorem IsMin.uniq {xs : List (Option Int)} {o o' : Option Int} (h : IsMin xs o) (h' : IsMin xs o') : o = o' := by
  cases o with
  | none =>
    cases o' with
    | none => rfl
    | some n => exact (h _ h'.1).symm
  | some n =>
    cases o' with
    | none => exact h' _ h.1
    | some m =>
      have := h.2 m h'.1
      have := h'.2 n h.1
      congr 1
      omega
/-- the least of ways with the first turn -/
theorem L_first (W : WOk w) {c : Nat} {r : List Nat} (hc : IsT c) {xs : List (Option Int)} (h1 : ∀ o ∈ xs, o = oplus (w c) (L w r) ∨ ∃ a b, r = a ++ und c :: b ∧ o = oplus (L w a) (L w b))
    (h2 : oplus (w c) (L w r) ∈ xs) (h3 : ∀ a b, r = a ++ und c :: b → oplus (L w a) (L w b) ∈ xs) : IsMin xs (L w (c :: r)) := by
  have low : ∀ n, some n ∈ xs → Cst w (c :: r) n := fun n hn => by
    rcases h1 _ hn with e | ⟨a, b, rfl, e⟩
    · obtain ⟨x, y, e1, e2, rfl⟩ := oplus_some e.symm
      exact Cst.del hc e1 (L_some W e2)
    · obtain ⟨x, y, e1, e2, rfl⟩ := oplus_some e.symm
      exact Cst.pair hc (L_some W e1) (L_some W e2)
  have high : ∀ n, Cst w (c :: r) n → ∃ m, some m ∈ xs ∧ m ≤ n := fun n hn => by
    rcases Cst.seen hn (p := []) (q := r) (x := c) rfl with ⟨u, m, hu, g1, rfl⟩ | ⟨p1, p2, m1, m2, e, _⟩ | ⟨q1, q2, m1, m2, rfl, g1, g2, rfl⟩
    · obtain ⟨k, e, l⟩ := L_le W g1
      have e : L w r = some k := e
      rw [hu, e] at h2
      exact ⟨_, h2, by omega⟩
    · simp at e
    · obtain ⟨k1, e1, l1⟩ := L_le W g1
      obtain ⟨k2, e2, l2⟩ := L_le W g2
      have e2 : L w q2 = some k2 := e2
      have := h3 q1 q2 rfl
      rw [e1, e2] at this
      exact ⟨_, this, by omega⟩
  cases e : L w (c :: r) with
  | none =>
    intro x hx
    cases x with
    | none => rfl
    | some n =>
      obtain ⟨m, e2, _⟩ := L_le W (low n hx)
      rw [e] at e2
      cases e2
  | some n =>
    obtain ⟨m, hm, l⟩ := high n (L_some W e)
    have hle : ∀ m, some m ∈ xs → n ≤ m := fun m hm => by
      obtain ⟨k, e2, l⟩ := L_le W (low m hm)
      rw [e] at e2
      cases e2
      exact l
    have := hle m hm
    have : m = n := by omega
    exact ⟨this ▸ hm, hle⟩
/-- .. with the last turn -/
theorem L_last (W : WOk w) {c : Nat} {r : List Nat} (hc : IsT c) {xs : List (Option Int)} (h1 : ∀ o ∈ xs, o = oplus (L w r) (w c) ∨ ∃ a b, r = a ++ und c :: b ∧ o = oplus (L w a) (L w b))
    (h2 : oplus (L w r) (w c) ∈ xs) (h3 : ∀ a b, r = a ++ und c :: b → oplus (L w a) (L w b) ∈ xs) : IsMin xs (L w (r ++ [c])) := by
  have low : ∀ n, some n ∈ xs → Cst w (r ++ [c]) n := fun n hn => by
    rcases h1 _ hn with e | ⟨a, b, rfl, e⟩
    · obtain ⟨x, y, e1, e2, rfl⟩ := oplus_some e.symm
      exact (L_some W e1).app (Cst.one hc e2)
    · obtain ⟨x, y, e1, e2, rfl⟩ := oplus_some e.symm
      refine ((L_some W e1).app (Cst.pair (b := []) (und_T hc) (L_some W e2) .nil)).to ?_ (by omega)
      rw [und_und hc]
      simp
  have high : ∀ n, Cst w (r ++ [c]) n → ∃ m, some m ∈ xs ∧ m ≤ n := fun n hn => by
    rcases Cst.seen hn (p := r) (q := []) (x := c) rfl with ⟨u, m, hu, g1, rfl⟩ | ⟨p1, p2, m1, m2, rfl, g1, g2, rfl⟩ | ⟨q1, q2, m1, m2, e, _⟩
    · rw [List.append_nil] at g1
      obtain ⟨k, e, l⟩ := L_le W g1
      rw [hu, e] at h2
      exact ⟨_, h2, by omega⟩
    · rw [List.append_nil] at g2
      obtain ⟨k1, e1, l1⟩ := L_le W g1
      obtain ⟨k2, e2, l2⟩ := L_le W g2
      have := h3 p1 p2 rfl
      rw [e1, e2] at this
      exact ⟨_, this, by omega⟩
    · simp at e
  cases e : L w (r ++ [c]) with
  | none =>
    intro x hx
    cases x with
    | none => rfl
    | some n =>
      obtain ⟨m, e2, _⟩ := L_le W (low n hx)
      rw [e] at e2
      cases e2
  | some n =>
    obtain ⟨m, hm, l⟩ := high n (L_some W e)
    have hle : ∀ m, some m ∈ xs → n ≤ m := fun m hm => by
      obtain ⟨k, e2, l⟩ := L_le W (low m hm)
      rw [e] at e2
      cases e2
      exact l
    have := hle m hm
    have : m = n := by omega
    exact ⟨this ▸ hm, hle⟩
end

/-! ### what each turn costs -/
theorem encO_od (o : Option Int) : Da.a (odV o) = encO o := by cases o <;> rfl
abbrev kC (c : Nat) : Key := .inr (tx [c])
/-- the cost of a turn -/
def wF (fl : Floor) (c : Nat) : Option Int := match fl.find? fun p => p.1 == c || p.1 - 32 == c with
  | some p => p.2
  | none => none
theorem asc_inj {fl : Floor} (h : FloorOk fl) {p q : Nat × Option Int} (hp : p ∈ fl) (hq : q ∈ fl) (e : p.1 = q.1) : p = q := by
  obtain ⟨i, hi⟩ := List.getElem?_of_mem hp
  obtain ⟨j, hj⟩ := List.getElem?_of_mem hq
  obtain ⟨hil, hi'⟩ := List.getElem?_eq_some_iff.mp hi
  obtain ⟨hjl, hj'⟩ := List.getElem?_eq_some_iff.mp hj
  have pw := List.pairwise_iff_getElem.mp h.asc
  have key : ∀ a b (ha : a < fl.length) (hb : b < fl.length), fl[a].1 = fl[b].1 → ¬ a < b := fun a b ha hb e2 hlt => by
    have := pw a b (by simpa using ha) (by simpa using hb) hlt
    simp at this
    omega
  have : i = j := by
    have h1 := key i j hil hjl (by rw [hi', hj']; exact e)
    have h2 := key j i hjl hil (by rw [hi', hj']; exact e.symm)
    omega
  subst this
  rw [hi] at hj
  exact Option.some.inj hj
theorem wF_mem {fl : Floor} (h : FloorOk fl) {p : Nat × Option Int} (hp : p ∈ fl) {c : Nat} (hc : c = p.1 ∨ c = p.1 - 32) : wF fl c = p.2 := by
  have hb := h.ok p hp
  unfold wF
  cases e : fl.find? fun p => p.1 == c || p.1 - 32 == c with
  | none =>
    have := List.find?_eq_none.mp e p hp
    simp at this
    omega
  | some q =>
    have hq := List.mem_of_find?_eq_some e
    have hbq := h.ok q hq
    have hx := List.find?_some e
    simp at hx
    have : q.1 = p.1 := by omega
    rw [asc_inj h hq hp this]
theorem turnsF_mem {fl : Floor} {c : Nat} (hc : c ∈ turnsF fl) : ∃ p ∈ fl, c = p.1 ∨ c = p.1 - 32 := by
  unfold turnsF lets at hc
  rcases List.mem_append.mp hc with hc | hc
  · obtain ⟨p, hp, rfl⟩ := List.mem_map.mp hc
    exact ⟨p, hp, .inl rfl⟩
  · rw [List.map_map] at hc
    obtain ⟨p, hp, rfl⟩ := List.mem_map.mp hc
    exact ⟨p, hp, .inr rfl⟩
theorem mem_turnsF {fl : Floor} {p : Nat × Option Int} (hp : p ∈ fl) : p.1 ∈ turnsF fl ∧ p.1 - 32 ∈ turnsF fl := by
  unfold turnsF lets
  rw [List.map_map]
  exact ⟨List.mem_append_left _ (List.mem_map_of_mem hp), List.mem_append_right _ (List.mem_map.mpr ⟨p, hp, rfl⟩)⟩
theorem wF_ok {fl : Floor} (h : FloorOk fl) : WOk (wF fl) := by
  have some_of : ∀ c x, wF fl c = some x → ∃ p ∈ fl, (p.1 = c ∨ p.1 - 32 = c) ∧ p.2 = some x := fun c x e => by
    unfold wF at e
    cases e2 : fl.find? fun p => p.1 == c || p.1 - 32 == c with
    | none => rw [e2] at e; cases e
    | some q =>
      rw [e2] at e
      have hx := List.find?_some e2
      simp at hx
      exact ⟨q, List.mem_of_find?_eq_some e2, hx, e⟩
  refine ⟨fun c x e => ?_, fun c hc => ?_⟩
  · obtain ⟨p, hp, _, e2⟩ := some_of c x e
    exact ((h.ok p hp).2.2 x e2).1
  · unfold wF
    have : ∀ p ∈ fl, (p.1 == und c || p.1 - 32 == und c) = (p.1 == c || p.1 - 32 == c) := fun p hp => by
      have hb := h.ok p hp
      unfold IsT at hc
      rw [Bool.eq_iff_iff]
      simp
      unfold und
      split <;> omega
    have e : fl.find? (fun p => p.1 == und c || p.1 - 32 == und c) = fl.find? (fun p => p.1 == c || p.1 - 32 == c) := by
      clear some_of
      have : ∀ l : Floor, (∀ p ∈ l, (p.1 == und c || p.1 - 32 == und c) = (p.1 == c || p.1 - 32 == c)) → l.find? (fun p => p.1 == und c || p.1 - 32 == und c) = l.find? (fun p => p.1 == c || p.1 - 32 == c) := by
        intro l
        induction l with
        | nil => intro _; rfl
        | cons p l ih =>
          intro hl
          rw [List.find?_cons, List.find?_cons, hl p List.mem_cons_self, ih fun q hq => hl q (List.mem_cons_of_mem _ hq)]
      exact this fl ‹_›
    rw [e]
/-- a dict of the costs of a floor's turns -/
structure IsCosts (fl : Floor) (kvs : List (Key × V)) : Prop where
  at_ : ∀ c ∈ turnsF fl, valV kvs (kC c) = some (odV (wF fl c))
  no : ∀ q : Key, (∀ c ∈ turnsF fl, q ≠ kC c) → valV kvs q = none
theorem kC_inj {c d : Nat} (h : kC c = kC d) : c = d := by
  have := Sum.inr.inj h
  have := congrArg (fun z : Str => z.cps.toList) this
  simpa [tx] using this
abbrev CostsC (M : Md) (k : Nat) : Prop := Cal M k "costs_of" [true] (fun fl : Floor => [encF fl]) FloorOk (fun fl d => ∃ kvs, d = .dk kvs ∧ IsCosts fl kvs)
abbrev PlusC (M : Md) (k : Nat) : Prop := Cal M k "plus" [true, true] (fun p : Option Int × Option Int => [encO p.1, encO p.2]) (fun _ => True) (fun p d => d = encO (oplus p.1 p.2))
/-- what a costs' dict holds behind some posts -/
structure CostsAt (fl : Floor) (i : Nat) (kvs : List (Key × V)) : Prop where
  len : kvs.length ≤ 2 * i
  at_ : ∀ p ∈ fl.take i, valV kvs (kC p.1) = some (odV p.2) ∧ valV kvs (kC (p.1 - 32)) = some (odV p.2)
  no : ∀ q : Key, (∀ p ∈ fl.take i, q ≠ kC p.1 ∧ q ≠ kC (p.1 - 32)) → valV kvs q = none
theorem CostsAt.nil (fl : Floor) : CostsAt fl 0 [] := ⟨Nat.zero_le _, fun p hp => by simp at hp, fun q _ => rfl⟩
theorem CostsAt.step {fl : Floor} {i : Nat} {kvs : List (Key × V)} {p : Nat × Option Int} (h : FloorOk fl) (c : CostsAt fl i kvs) (hp : fl[i]? = some p) : CostsAt fl (i + 1) (putK (putK kvs (kC p.1) (odV p.2)) (kC (p.1 - 32)) (odV p.2)) := by
  have l1 := length_putK kvs (kC p.1) (odV p.2)
  have l2 := length_putK (putK kvs (kC p.1) (odV p.2)) (kC (p.1 - 32)) (odV p.2)
  have l3 := c.len
  have hpm := List.mem_of_getElem? hp
  have hb := h.ok p hpm
  have et : fl.take (i + 1) = fl.take i ++ [p] := by rw [List.take_add_one, hp]; rfl
  refine ⟨by omega, fun q hq => ?_, fun q hq => ?_⟩
  · have hqm := List.mem_of_mem_take hq
    have hbq := h.ok q hqm
    rw [valV_put, valV_put, valV_put, valV_put]
    by_cases e : q.1 = p.1
    · have : q = p := asc_inj h hqm hpm e
      subst this
      refine ⟨?_, by rw [if_pos rfl]⟩
      rw [if_neg (fun z => by have := kC_inj z; omega), if_pos rfl]
    · have hq' : q ∈ fl.take i := by
        rw [et] at hq
        rcases List.mem_append.mp hq with hq | hq
        · exact hq
        · exact absurd (congrArg (·.1) (List.mem_singleton.mp hq)) e
      have := c.at_ q hq'
      rw [if_neg (fun z => by have := kC_inj z; omega), if_neg (fun z => e (kC_inj z)), if_neg (fun z => by have := kC_inj z; omega), if_neg (fun z => by have := kC_inj z; omega)]
      exact this
  · have hl := hq p (by rw [et]; simp)
    rw [valV_put, valV_put, if_neg hl.2, if_neg hl.1]
    exact c.no q fun r hr => hq r (by rw [et]; exact List.mem_append_left _ hr)
theorem CostsAt.full {fl : Floor} {kvs : List (Key × V)} (h : FloorOk fl) (c : CostsAt fl fl.length kvs) : IsCosts fl kvs := by
  have e : fl.take fl.length = fl := List.take_length
  refine ⟨fun d hd => ?_, fun q hq => c.no q fun p hp => ?_⟩
  · obtain ⟨p, hp, hc⟩ := turnsF_mem hd
    have := c.at_ p (by rw [e]; exact hp)
    rw [wF_mem h hp hc]
    rcases hc with rfl | rfl
    · exact this.1
    · exact this.2
  · rw [e] at hp
    have := mem_turnsF hp
    exact ⟨hq _ this.1, hq _ this.2⟩
section
variable {M : Md} {k : Nat}
theorem ok_costs {f : Addr} {fd : FuncData} (F : Fun M.K "costs_of" "costs_of" s_costs_of f fd) (cU : UndoesC M k) :
    FnOk M.P M.w M.K M.mg M.base CX0 (k + 1) f fd ["floor"] (SpD M.K [true] (fun fl : Floor => [encF fl]) FloorOk (fun fl d => ∃ kvs, d = .dk kvs ∧ IsCosts fl kvs)) := by
  refine fn_ok F S_costs_of rfl fun X S fl hf => ?_
  show DB X _ [some (.d (encF fl)), none, none, none] _ _ _ _
  have hl := hf.len
  refine db_cons (ds_ownK S ⟨_, by walk_at "ss", ?_⟩ (by walk_at "dk"))
  refine db_cons (ds_for S (di_tup ?_))
  walk_at "go"
  refine ⟨_, rfl, fun i δ => ∃ (kvs : List (Key × V)) (a b : Option SD), δ = [some (.d (encF fl)), some (.ok kvs), a, b] ∧ CostsAt fl i kvs, ⟨[], none, none, rfl, CostsAt.nil fl⟩, ?_, ?_⟩
  · rintro i d δ' hi ⟨kvs, a, b, rfl, hc⟩
    rw [List.getElem?_map] at hi
    obtain ⟨p, hp, rfl⟩ := Option.map_eq_some_iff.mp hi
    have hil := (List.getElem?_eq_some_iff.mp hp).1
    have hb := hf.ok p (List.mem_of_getElem? hp)
    have hlen := hc.len
    have l1 := length_putK kvs (kC p.1) (odV p.2)
    refine ⟨_, dg_tup S (dgs_cons (dg_name S (by walk_at "dk") ⟨_, by walk_at "ss", dgs_cons (dg_name S (by walk_at "dk") ⟨_, by walk_at "ss", dgs_nil ?_⟩)⟩))⟩
    refine db_cons (ds_dputK S (by walk_at "gt") (by walk_at "dk") (by omega) ?_)
    walk_at "go"
    refine ⟨odV p.2, kC p.1, (encO_od _).symm, rfl, _, by walk_at "ss", ?_⟩
    refine db_cons (ds_dputK S (by walk_at "gt") (by walk_at "dk") (by omega) ?_)
    walk_at "go"
    refine ⟨p.1, rfl, .inl ⟨hb.1, hb.2.1⟩, ?_⟩
    rintro _ rfl
    have eu : und p.1 = p.1 - 32 := by unfold und; rw [if_pos hb.1]
    rw [eu]
    refine ⟨odV p.2, kC (p.1 - 32), (encO_od _).symm, rfl, _, by walk_at "ss", ?_⟩
    walk_at "go"
    exact ⟨_, _, _, rfl, hc.step hf hp⟩
  · rintro δ' ⟨kvs, a, b, rfl, hc⟩
    rw [encF_len] at hc
    refine db_freezeK (x := "found") (by walk_at "gt") ⟨_, by walk_at "ss", ?_⟩ S.nd
    walk_at "go"
    exact ⟨_, rfl, hc.full hf⟩
theorem ok_plus {f : Addr} {fd : FuncData} (F : Fun M.K "plus" "plus" s_plus f fd) :
    FnOk M.P M.w M.K M.mg M.base CX0 (k + 1) f fd ["one", "other"] (SpD M.K [true, true] (fun p : Option Int × Option Int => [encO p.1, encO p.2]) (fun _ => True) (fun p d => d = encO (oplus p.1 p.2))) := by
  refine fn_ok F S_plus rfl fun X S ⟨a, b⟩ _ => ?_
  dsimp only
  show DB X _ [some (.d (encO a)), some (.d (encO b))] _ _ _ _
  cases a with
  | none =>
    walk_at "go"
    refine .isN ?_
    walk_at "go"
    rfl
  | some i =>
    cases b with
    | none =>
      walk_at "go"
      refine .isN ?_
      walk_at "go"
      refine .isN ?_
      walk_at "go"
      rfl
    | some j =>
      walk_at "go"
      refine .isN ?_
      walk_at "go"
      refine .isN ?_
      walk_at "go"
      rfl
end

/-! ### the table of least costs, by first turns -/
/-- a stretch of a row -/
def sub (r : List Nat) (b l : Nat) : List Nat := (r.drop b).take l
theorem sub_zero (r : List Nat) (b : Nat) : sub r b 0 = [] := by simp [sub]
theorem sub_all (r : List Nat) : sub r 0 r.length = r := by simp [sub]
theorem sub_len {r : List Nat} {b l : Nat} (h : b + l ≤ r.length) : (sub r b l).length = l := by simp [sub]; omega
theorem sub_get {r : List Nat} {b l i : Nat} (h : i < l) : (sub r b l)[i]? = r[b + i]? := by
  unfold sub
  rw [List.getElem?_take, if_pos h, List.getElem?_drop]
theorem sub_cons {r : List Nat} {b l : Nat} {c : Nat} (hc : r[b]? = some c) : sub r b (l + 1) = c :: sub r (b + 1) l := by
  unfold sub
  have hb := (List.getElem?_eq_some_iff.mp hc).1
  rw [List.drop_eq_getElem_cons hb, List.take_succ_cons, (List.getElem?_eq_some_iff.mp hc).2]
theorem sub_sub {r : List Nat} {b l i j : Nat} (h : i + j ≤ l) : sub (sub r b l) i j = sub r (b + i) j := by
  unfold sub
  rw [List.drop_take, List.drop_drop, List.take_take, Nat.min_eq_left (by omega)]
theorem sub_split {r : List Nat} {b l o : Nat} {x : Nat} (ho : o < l) (hx : r[b + o]? = some x) : sub r b l = sub r b o ++ x :: sub r (b + o + 1) (l - o - 1) := by
  have e : sub r b l = sub (sub r b l) 0 o ++ (sub r b l).drop o := by
    unfold sub
    rw [List.drop_zero, List.take_append_drop]
  have hxs : (sub r b l)[o]? = some x := by rw [sub_get ho]; exact hx
  have hl := (List.getElem?_eq_some_iff.mp hxs).1
  rw [e, sub_sub (by omega), Nat.add_zero, List.drop_eq_getElem_cons hl, (List.getElem?_eq_some_iff.mp hxs).2]
  congr 2
  have : (sub r b l).drop (o + 1) = sub r (b + o + 1) (l - o - 1) := by
    unfold sub
    rw [List.drop_take, List.drop_drop, Nat.sub_sub]
    rfl
  exact this
theorem sub_row {r : List Nat} (h : Row r) (b l : Nat) : Row (sub r b l) := fun c hc => h c (List.mem_of_mem_drop (List.mem_of_mem_take hc))
/-- what the table at stretches below n holds -/
def TabTo (w : Nat → Option Int) (r : List Nat) (n : Nat) (kvs : List (List Key × V)) : Prop := ∀ b l, b + l ≤ r.length → l < n → valV kvs [.inl (b : Nat), .inl (l : Nat)] = some (odV (L w (sub r b l)))
/-- the ways with the first turn of a stretch -/
noncomputable def waysL (w : Nat → Option Int) (r : List Nat) (b l : Nat) : List (Option Int × Option Int) :=
  (oplus (w (r.getD b 0)) (L w (sub r (b + 1) (l - 1))), none) ::
    (((List.range (l - 1)).map fun i => b + 1 + i).filter fun o => decide (r.getD o 0 = und (r.getD b 0))).map fun o => (oplus (L w (sub r (b + 1) (o - b - 1))) (L w (sub r (o + 1) (b + l - o - 1))), some (o : Int))
def encW (p : Option Int × Option Int) : Da := .tup [encO p.1, encO p.2]
theorem waysL_len (w : Nat → Option Int) (r : List Nat) (b l : Nat) (h : 1 ≤ l) : (waysL w r b l).length ≤ l := by
  unfold waysL
  rw [List.length_cons, List.length_map]
  have := List.length_filter_le (fun o => decide (r.getD o 0 = und (r.getD b 0))) ((List.range (l - 1)).map fun i => b + 1 + i)
  rw [List.length_map, List.length_range] at this
  omega
theorem getD_of {r : List Nat} {i c : Nat} (h : r[i]? = some c) : r.getD i 0 = c := by
  rw [List.getD_eq_getElem?_getD, h]
  rfl
theorem waysL_min {w : Nat → Option Int} (W : WOk w) {r : List Nat} (hr : Row r) {b l : Nat} (hl : 1 ≤ l) (hb : b + l ≤ r.length) : IsMin ((waysL w r b l).map (·.1)) (L w (sub r b l)) := by
  obtain ⟨c, hc⟩ : ∃ c, r[b]? = some c := ⟨r[b], List.getElem?_eq_getElem (by omega)⟩
  obtain ⟨m, rfl⟩ : ∃ m, l = m + 1 := ⟨l - 1, by omega⟩
  have hcT := hr c (List.mem_of_getElem? hc)
  have ec := getD_of hc
  rw [sub_cons hc]
  unfold waysL
  rw [ec]
  refine L_first W hcT (fun o ho => ?_) ?_ fun p q e => ?_
  · rw [List.map_cons, List.map_map] at ho
    rcases List.mem_cons.mp ho with e | ho
    · exact .inl e
    · obtain ⟨i, hi, rfl⟩ := List.mem_map.mp ho
      obtain ⟨hi1, hi2⟩ := List.mem_filter.mp hi
      obtain ⟨j, hj, rfl⟩ := List.mem_map.mp hi1
      have hj := List.mem_range.mp hj
      obtain ⟨x, hx⟩ : ∃ x, r[b + 1 + j]? = some x := ⟨r[b + 1 + j], List.getElem?_eq_getElem (by omega)⟩
      have e2 : x = und c := by rw [getD_of hx] at hi2; simpa using hi2
      refine .inr ⟨sub r (b + 1) j, sub r (b + 1 + j + 1) (m - j - 1), ?_, ?_⟩
      · rw [← e2]
        exact sub_split (by omega) hx
      · dsimp only [Function.comp]
        rw [show b + 1 + j - b - 1 = j by omega, show b + (m + 1) - (b + 1 + j) - 1 = m - j - 1 by omega]
  · exact List.mem_cons_self
  · have hlen := congrArg List.length e
    rw [sub_len (by omega)] at hlen
    simp at hlen
    have hx : r[b + 1 + p.length]? = some (und c) := by
      have := sub_get (r := r) (b := b + 1) (l := m) (i := p.length) (by omega)
      rw [← this, e]
      simp
    have hsp := sub_split (r := r) (b := b + 1) (l := m) (o := p.length) (by omega) hx
    rw [hsp] at e
    have hp1 : (sub r (b + 1) p.length).length = p.length := sub_len (by omega)
    obtain ⟨e1, e2⟩ := List.append_inj e hp1
    rw [List.map_cons, List.map_map]
    refine List.mem_cons_of_mem _ (List.mem_map.mpr ⟨b + 1 + p.length, List.mem_filter.mpr ⟨List.mem_map.mpr ⟨p.length, List.mem_range.mpr (by omega), rfl⟩, ?_⟩, ?_⟩)
    · rw [getD_of hx]
      simp
    · dsimp only [Function.comp]
      rw [show b + 1 + p.length - b - 1 = p.length by omega, e1, show b + (m + 1) - (b + 1 + p.length) - 1 = m - p.length - 1 by omega, (List.cons.inj e2).2]
/-- the least of whole numbers is that of what they stand for -/
theorem ominI_min {xs : List (Option Int)} {o : Option Int} (h : IsMin xs o) : ominI (xs.filterMap id) = o := by
  have key : ∀ (n : Int) (r : List Int), r.foldl min n ∈ n :: r ∧ ∀ m ∈ n :: r, r.foldl min n ≤ m := by
    intro n r
    induction r generalizing n with
    | nil => exact ⟨List.mem_cons_self, fun m hm => by rw [List.mem_singleton.mp hm]; exact Int.le_refl _⟩
    | cons a r ih =>
      rw [List.foldl_cons]
      obtain ⟨h1, h2⟩ := ih (min n a)
      refine ⟨?_, fun m hm => ?_⟩
      · rcases List.mem_cons.mp h1 with e | e
        · rw [e]
          rcases Int.le_total n a with q | q
          · rw [Int.min_eq_left q]; exact List.mem_cons_self
          · rw [Int.min_eq_right q]; exact List.mem_cons_of_mem _ List.mem_cons_self
        · exact List.mem_cons_of_mem _ (List.mem_cons_of_mem _ e)
      · have hmin := h2 (min n a) List.mem_cons_self
        rcases List.mem_cons.mp hm with rfl | hm
        · have := Int.min_le_left m a; omega
        · rcases List.mem_cons.mp hm with rfl | hm
          · have := Int.min_le_right n m; omega
          · exact h2 m (List.mem_cons_of_mem _ hm)
  have mem : ∀ m, m ∈ xs.filterMap id ↔ some m ∈ xs := fun m => by simp
  refine IsMin.uniq (xs := xs) ?_ h
  cases e : xs.filterMap id with
  | nil =>
    intro x hx
    cases x with
    | none => rfl
    | some m =>
      have := (mem m).mpr hx
      rw [e] at this
      cases this
  | cons n r =>
    obtain ⟨h1, h2⟩ := key n r
    exact ⟨(mem _).mp (by rw [e]; exact h1), fun m hm => h2 m (by rw [← e]; exact (mem m).mpr hm)⟩
/-- what is given to ways -/
structure WaysA where
  fl : Floor
  r : List Nat
  kc : List (Key × V)
  kt : List (List Key × V)
  b : Nat
  l : Nat
def WaysPre (a : WaysA) : Prop := FloorOk a.fl ∧ RowOf a.fl a.r ∧ a.r.length ≤ 300 ∧ IsCosts a.fl a.kc ∧ TabTo (wF a.fl) a.r a.l a.kt ∧ 1 ≤ a.l ∧ a.b + a.l ≤ a.r.length
def WaysPost (a : WaysA) (d : Da) : Prop := d = .lst ((waysL (wF a.fl) a.r a.b a.l).map encW)
abbrev WaysC (M : Md) (k : Nat) : Prop := Cal M k "ways" [true, true, false, true, true] (fun a : WaysA => [.str (tx a.r), .dk a.kc, .dt a.kt, .int (a.b : Nat), .int (a.l : Nat)]) WaysPre WaysPost
structure TabOf (w : Nat → Option Int) (r : List Nat) (kvs : List (List Key × V)) : Prop where
  at_ : TabTo w r (r.length + 1) kvs
def BestPre (p : Floor × List Nat) : Prop := FloorOk p.1 ∧ RowOf p.1 p.2 ∧ p.2.length ≤ 300
abbrev BestC (M : Md) (k : Nat) : Prop := Cal M k "best_table" [true, true] (fun p : Floor × List Nat => [encF p.1, .str (tx p.2)]) BestPre (fun p d => ∃ kvs, d = .dt kvs ∧ TabOf (wF p.1) p.2 kvs)
abbrev LeastC (M : Md) (k : Nat) : Prop := Cal M k "least" [true, true] (fun p : Floor × List Nat => [encF p.1, .str (tx p.2)]) BestPre (fun p d => d = encO (L (wF p.1) p.2))
theorem sub_nat1 (b i : Nat) : b + 1 + i - b - 1 = i := by omega
section
variable {M : Md} {k : Nat}
theorem tab_ix {X : Cx} {Ψ : Da → Prop} {w : Nat → Option Int} {r : List Nat} {n : Nat} {kvs : List (List Key × V)} (h : TabTo w r n kvs) {i j : Int} {b l : Nat} (hi : i = b) (hj : j = l) (hb : b + l ≤ r.length) (hl : l < n) (p : Ψ (.a (odV (L w (sub r b l))))) :
    IxW Ψ (.dt kvs) (.tup [.int i, .int j]) := by
  subst hi hj
  exact .dt (q := [.inl (b : Nat), .inl (l : Nat)]) rfl (h b l hb hl) p
theorem ok_ways {f : Addr} {fd : FuncData} (F : Fun M.K "ways" "ways" s_ways f fd) (cU : UndoesC M k) (cP : PlusC M k) (mr : M.mg "range" = none) :
    FnOk M.P M.w M.K M.mg M.base CX0 (k + 1) f fd ["row", "costs", "table", "begin", "long"] (SpD M.K [true, true, false, true, true] (fun a : WaysA => [.str (tx a.r), .dk a.kc, .dt a.kt, .int (a.b : Nat), .int (a.l : Nat)]) WaysPre WaysPost) := by
  refine fn_ok F S_ways rfl fun X S ⟨fl, r, kc, kt, b, l⟩ ⟨hf, hro, hrl, hkc, hkt, hl, hbl⟩ => ?_
  dsimp only at hf hro hrl hkc hkt hl hbl ⊢
  show DB X _ [some (.d (.str (tx r))), some (.d (.dk kc)), some (.b (.dt kt)), some (.d (.int (b : Nat))), some (.d (.int (l : Nat))), none, none, none, none] _ _ _ _
  have hr := hro.row hf
  obtain ⟨c, hc⟩ : ∃ c, r[b]? = some c := ⟨r[b], List.getElem?_eq_getElem (by omega)⟩
  have hcm := hro c (List.mem_of_getElem? hc)
  have hcT := hr c (List.mem_of_getElem? hc)
  have ec := getD_of hc
  refine db_cons (ds_ownLs S ?_ (by walk_at "dk") (by walk_at "dk"))
  walk_at "go"
  refine at_tx (X := X) (by omega) rfl hc ?_
  refine .dk (q := kC c) rfl (hkc.at_ c hcm) ?_
  rw [encO_od]
  walk_at "go"
  refine tab_ix (X := X) hkt (b := b + 1) (l := l - 1) (by omega) (by omega) (by omega) (by omega) ⟨_, rfl, ?_⟩
  rw [encO_od]
  walk_at "go"
  refine ⟨(_, _), rfl, trivial, ?_⟩
  rintro _ rfl
  walk_at "go"
  refine ⟨_, by walk_at "ss", ?_⟩
  dsimp only
  refine db_cons (ds_for S (di_range2 S mr (by walk_at "dk") ?_))
  walk_at "go"
  refine ⟨_, _, rfl, rfl, ⟨by omega, by omega, by omega, by omega⟩, ?_⟩
  rw [show ((b : Int) + l - ((b : Int) + 1)).toNat = l - 1 by omega]
  refine ⟨fun i δ => ∃ (x y z : Option SD), δ = [some (.d (.str (tx r))), some (.d (.dk kc)), some (.b (.dt kt)), some (.d (.int (b : Nat))), some (.d (.int (l : Nat))),
    some (.ol (((oplus (wF fl c) (L (wF fl) (sub r (b + 1) (l - 1))), none) :: (((List.range i).map fun i => b + 1 + i).filter fun o => decide (r.getD o 0 = und c)).map fun o => (oplus (L (wF fl) (sub r (b + 1) (o - b - 1))) (L (wF fl) (sub r (o + 1) (b + l - o - 1))), some (o : Int))).map encW)), x, y, z],
    ⟨_, _, _, rfl⟩, ?_, ?_⟩
  · rintro i d δ' hi ⟨x, y, z, rfl⟩
    obtain ⟨hil, rfl⟩ := rangeD_get hi
    obtain ⟨e, he⟩ : ∃ e, r[b + 1 + i]? = some e := ⟨r[b + 1 + i], List.getElem?_eq_getElem (by omega)⟩
    have heT := hr e (List.mem_of_getElem? he)
    refine ⟨_, dg_name S (by walk_at "dk") ⟨_, by walk_at "ss", ?_⟩⟩
    have et : (List.range (i + 1)).map (fun i => b + 1 + i) = (List.range i).map (fun i => b + 1 + i) ++ [b + 1 + i] := by rw [List.range_succ, List.map_append]; rfl
    have hbound : ((((List.range i).map fun i => b + 1 + i).filter fun o => decide (r.getD o 0 = und c))).length ≤ i := by
      have := List.length_filter_le (fun o => decide (r.getD o 0 = und c)) ((List.range i).map fun i => b + 1 + i)
      rw [List.length_map, List.length_range] at this
      exact this
    walk_at "go"
    refine at_tx (X := X) (j := b + 1 + i) (by omega) (by omega) he ?_
    walk_at "go"
    refine at_tx (X := X) (by omega) rfl hc ?_
    walk_at "go"
    refine ⟨c, rfl, hcT, ?_⟩
    rintro _ rfl
    walk_at "go"
    refine .eqS rfl ⟨fun h => ?_, fun h => ?_⟩
    · have e1 : e = und c := by simpa using h
      walk_at "go"
      refine tab_ix (X := X) hkt (b := b + 1) (l := i) (by omega) (by omega) (by omega) (by omega) ⟨_, rfl, ?_⟩
      rw [encO_od]
      walk_at "go"
      refine tab_ix (X := X) hkt (b := b + 1 + i + 1) (l := l - i - 2) (by omega) (by omega) (by omega) (by omega) ⟨_, rfl, ?_⟩
      rw [encO_od]
      walk_at "go"
      refine ⟨_, _, by walk_at "ss", by walk_at "ss", ?_⟩
      walk_at "go"
      rotate_left
      · rw [List.length_map, List.length_cons, List.length_map]
        omega
      refine ⟨(_, _), rfl, trivial, ?_⟩
      rintro _ rfl
      walk_at "go"
      refine ⟨_, by walk_at "ss", ?_⟩
      walk_at "go"
      have e2 := sub_nat1 b i
      have e3 : b + l - (b + 1 + i) - 1 = l - i - 2 := by omega
      refine ⟨_, _, _, by
        rw [et, List.filter_append, List.map_append, List.filter_cons_of_pos (by rw [getD_of he, e1]; simp)]
        simp only [List.filter_nil, List.map_cons, List.map_nil, List.map_append, List.cons_append, e2, e3, encW, encO]
        rfl⟩
    · have e1 : ¬ e = und c := by simpa using h
      walk_at "go"
      exact ⟨_, _, _, by
        rw [et, List.filter_append, List.filter_cons_of_neg (by rw [getD_of he]; simpa using e1)]
        simp only [List.filter_nil, List.append_nil]
        rfl⟩
  · rintro δ' ⟨x, y, z, rfl⟩
    rw [rangeD_len]
    refine db_freezeL (x := "found") (by walk_at "gt") ⟨_, by walk_at "ss", ?_⟩ S.nd
    walk_at "go"
    show WaysPost _ _
    unfold WaysPost waysL
    dsimp only
    rw [ec]
end

/-! ### the table, the least cost -/
theorem key2_ne {a b c d : Nat} (h : ¬ (a = c ∧ b = d)) : ¬ (([.inl (a : Int), .inl (b : Int)] : List Key) = [.inl (c : Int), .inl (d : Int)]) := fun e => by
  simp at e
  exact h ⟨by omega, by omega⟩
theorem filt_ints (xs : List (Option Int × Option Int)) : (xs.filter fun p => p.1.isSome).map (fun p => encO p.1) = ((xs.map (·.1)).filterMap id).map Da.int := by
  induction xs with
  | nil => rfl
  | cons p xs ih =>
    obtain ⟨a, b⟩ := p
    cases a with
    | none => simpa using ih
    | some i => exact congrArg (Da.int i :: ·) ih
section
variable {M : Md} {k : Nat}
theorem ok_best {f : Addr} {fd : FuncData} (F : Fun M.K "best_table" "best_table" s_best_table f fd) (cC : CostsC M k) (cW : WaysC M k) (ml : M.mg "len" = none) (mr : M.mg "range" = none) (mn : M.mg "min" = none) :
    FnOk M.P M.w M.K M.mg M.base CX0 (k + 1) f fd ["floor", "row"] (SpD M.K [true, true] (fun p : Floor × List Nat => [encF p.1, .str (tx p.2)]) BestPre (fun p d => ∃ kvs, d = .dt kvs ∧ TabOf (wF p.1) p.2 kvs)) := by
  refine fn_ok F S_best_table rfl fun X S ⟨fl, r⟩ ⟨hf, hro, hrl⟩ => ?_
  dsimp only at hf hro hrl ⊢
  show DB X _ [some (.d (encF fl)), some (.d (.str (tx r))), none, none, none, none, none, none, none, none] _ _ _ _
  have hr := hro.row hf
  have W := wF_ok hf
  walk_at "go"
  refine ⟨fl, rfl, hf, ?_⟩
  rintro _ ⟨kc, rfl, hkc⟩
  walk_at "go"
  refine bw_lenS (by rw [len_tx]; exact sl1 (by omega)) ?_
  rw [len_tx]
  refine ⟨_, _, by walk_at "ss", by walk_at "ss", ?_⟩
  refine db_cons (ds_setTc S (di_range1 S mr (by walk_at "dk") ?_) (os := ["begin"]) (by walk_at "dk") (by walk_at "dk") (by walk_at "dk"))
  walk_at "go"
  refine ⟨_, rfl, by omega, by omega, ?_⟩
  rw [show ((r.length : Int) + 1).toNat = r.length + 1 by omega]
  refine ⟨_, by walk_at "wp", by rw [rangeD_len]; omega, fun i acc => acc.length ≤ i ∧ ∀ b : Nat, b < i → valV acc [.inl (b : Int), .inl ((0 : Nat) : Int)] = some (.int 0), ⟨Nat.zero_le _, fun b hb => by omega⟩, fun X1 S1 i d acc hi ⟨h1, h2⟩ => ?_, fun acc _ ⟨h1, h2⟩ => ?_⟩
  · obtain ⟨hir, rfl⟩ := rangeD_get hi
    refine dg_name S1 (by walk_at "dk") ⟨_, by walk_at "ss", fun X2 S2 => DTs.nil ⟨fun _ X3 S3 => ?_, fun z => nomatch z⟩⟩
    walk_at "go"
    intro X4 S4
    walk_at "go"
    refine ⟨[.inl (i : Int), .inl ((0 : Nat) : Int)], .int 0, by simp [kV], rfl, ?_, fun b hb => ?_⟩
    · have := length_putK acc [.inl (i : Int), .inl ((0 : Nat) : Int)] (.int 0)
      omega
    · rw [valV_put]
      by_cases e : b = i
      · subst e
        rw [if_pos rfl]
      · rw [if_neg (key2_ne (by omega))]
        exact h2 b (by omega)
  rw [rangeD_len] at h1 h2
  refine ⟨_, by walk_at "ss", ?_⟩
  have t0 : TabTo (wF fl) r 1 acc := fun b l hb hl => by
    have : l = 0 := by omega
    subst this
    rw [h2 b (by omega), sub_zero, L_nil W]
    rfl
  refine db_cons (ds_for S (di_range2 S mr (by walk_at "dk") ?_))
  walk_at "go"
  refine ⟨_, _, rfl, rfl, ⟨by omega, by omega, by omega, by omega⟩, ?_⟩
  rw [show ((r.length : Int) + 1 - 1).toNat = r.length by omega]
  refine ⟨fun i δ => ∃ (kvs : List (List Key × V)) (a b c d e : Option SD), δ = [some (.d (encF fl)), some (.d (.str (tx r))), some (.d (.dk kc)), some (.d (.int (r.length : Nat))), some (.ot kvs), a, b, c, d, e] ∧ TabTo (wF fl) r (i + 1) kvs ∧ kvs.length ≤ 301 * (i + 1),
    ⟨_, _, _, _, _, _, rfl, t0, by omega⟩, ?_, ?_⟩
  · rintro i d δ' hi ⟨kvs, a, b, c, d', e, rfl, ht, hk⟩
    obtain ⟨hir, rfl⟩ := rangeD_get hi
    refine ⟨_, dg_name S (by walk_at "dk") ⟨_, by walk_at "ss", ?_⟩⟩
    refine db_cons (ds_for S (di_range1 S mr (by walk_at "dk") ?_))
    walk_at "go"
    refine ⟨_, rfl, by omega, by omega, ?_⟩
    rw [show ((r.length : Int) - (1 + (i : Int)) + 1).toNat = r.length - i by omega]
    refine ⟨fun j δ => ∃ (kvs : List (List Key × V)) (b c d e : Option SD), δ = [some (.d (encF fl)), some (.d (.str (tx r))), some (.d (.dk kc)), some (.d (.int (r.length : Nat))), some (.ot kvs), some (.d (.int (1 + (i : Int)))), b, c, d, e] ∧ TabTo (wF fl) r (i + 1) kvs ∧ kvs.length ≤ 301 * (i + 1) + j ∧
      ∀ b : Nat, b < j → valV kvs [.inl (b : Int), .inl ((i + 1 : Nat) : Int)] = some (odV (L (wF fl) (sub r b (i + 1)))), ⟨kvs, _, _, _, _, rfl, ht, by omega, fun b hb => by omega⟩, ?_, ?_⟩
    · rintro j d δ' hj ⟨kvs, b, c, d', e, rfl, ht, hk, hd⟩
      obtain ⟨hjr, rfl⟩ := rangeD_get hj
      refine ⟨_, dg_name S (by walk_at "dk") ⟨_, by walk_at "ss", ?_⟩⟩
      rw [Int.zero_add]
      refine db_cons (ds_setLc1 S (di_lst ?_) (by walk_at "dk") (by walk_at "dk") (by walk_at "dk"))
      walk_at "go"
      refine ⟨⟨fl, r, kc, kvs, j, i + 1⟩, by dsimp only; rw [show ((i + 1 : Nat) : Int) = 1 + (i : Int) by omega], ⟨hf, hro, hrl, hkc, ht, by show 1 ≤ i + 1; omega, by show j + (i + 1) ≤ r.length; omega⟩, ?_⟩
      rintro _ rfl
      dsimp only
      have hmin := ominI_min (waysL_min W hr (b := j) (l := i + 1) (by omega) (by omega))
      have hwl := waysL_len (wF fl) r j (i + 1) (by omega)
      generalize waysL (wF fl) r j (i + 1) = ws at hmin hwl
      refine ⟨_, rfl, ?_⟩
      refine lc_filter (g := encW) (p := fun p => p.1.isSome) (f := fun p => encO p.1) (by walk_at "wp") (by omega) (fun X1 S1 p hp => ?_) ?_
      · obtain ⟨o, q⟩ := p
        refine dg_tup S1 (ds := [encO o, encO q]) (dgs_cons (dg_name S1 (by walk_at "dk") ⟨_, by walk_at "ss", dgs_cons (dg_name S1 (by walk_at "dk") ⟨_, by walk_at "ss", dgs_nil fun X2 S2 => ?_⟩)⟩))
        dsimp only
        rw [← encO_od o]
        walk_at "go"
        refine .notN ⟨?_, fun _ X3 S3 => ?_⟩
        · cases o <;> rfl
        · walk_at "go"
          rfl
      rw [filt_ints]
      generalize (ws.map (·.1)).filterMap id = ns at hmin
      refine ⟨_, by walk_at "ss", ?_⟩
      refine db_cons (ds_dputT S (by walk_at "gt") (by walk_at "dk") (by omega) ?_)
      refine de_minD S mn (by walk_at "dk") ?_
      walk_at "go"
      refine ⟨ns, rfl, ?_⟩
      rw [hmin]
      walk_at "go"
      have l1 := length_putK kvs [.inl (j : Int), .inl ((i + 1 : Nat) : Int)] (odV (L (wF fl) (sub r j (i + 1))))
      refine ⟨_, [.inl (j : Int), .inl ((i + 1 : Nat) : Int)], rfl, by simp only [List.map_cons, List.map_nil, kV]; rw [show ((i + 1 : Nat) : Int) = 1 + (i : Int) by omega], _, by walk_at "ss", ?_⟩
      walk_at "go"
      refine ⟨_, _, _, _, _, rfl, fun b l hb hl => ?_, by omega, fun b hb => ?_⟩
      · rw [valV_put, if_neg (key2_ne (by omega))]
        exact ht b l hb hl
      · rw [valV_put]
        by_cases e : b = j
        · subst e
          rw [if_pos rfl]
        · rw [if_neg (key2_ne (by omega))]
          exact hd b (by omega)
    · rintro δ' ⟨kvs, b, c, d, e, rfl, ht, hk, hd⟩
      rw [rangeD_len] at hd hk
      walk_at "go"
      refine ⟨kvs, _, _, _, _, _, rfl, fun b l hb hl => ?_, by omega⟩
      by_cases el : l = i + 1
      · subst el
        exact hd b (by omega)
      · exact ht b l hb (by omega)
  · rintro δ' ⟨kvs, a, b, c, d, e, rfl, ht, hk⟩
    rw [rangeD_len] at ht
    refine db_freezeT (x := "found") (by walk_at "gt") ⟨_, by walk_at "ss", ?_⟩ S.nd
    walk_at "go"
    exact ⟨_, rfl, ⟨ht⟩⟩
theorem ok_least {f : Addr} {fd : FuncData} (F : Fun M.K "least" "least" s_least f fd) (cB : BestC M k) (ml : M.mg "len" = none) :
    FnOk M.P M.w M.K M.mg M.base CX0 (k + 1) f fd ["floor", "row"] (SpD M.K [true, true] (fun p : Floor × List Nat => [encF p.1, .str (tx p.2)]) BestPre (fun p d => d = encO (L (wF p.1) p.2))) := by
  refine fn_ok F S_least rfl fun X S ⟨fl, r⟩ hp => ?_
  show DB X _ [some (.d (encF fl)), some (.d (.str (tx r)))] _ _ _ _
  have hrl : r.length ≤ 300 := hp.2.2
  walk_at "go"
  refine ⟨(fl, r), rfl, hp, ?_⟩
  rintro _ ⟨kvs, rfl, ht⟩
  walk_at "go"
  refine bw_lenS (by rw [len_tx]; exact sl1 (by omega)) ?_
  rw [len_tx]
  walk_at "go"
  refine tab_ix (X := X) (show TabTo (wF fl) r (r.length + 1) kvs from ht.at_) (b := 0) (l := r.length) rfl rfl (by omega) (by omega) ⟨_, rfl, ?_⟩
  rw [encO_od, sub_all]
end

/-! ### the law's own reckoning of least costs -/
def belowB : Option Int → Option Int → Bool
  | none, _ => false
  | some _, none => true
  | some i, some j => decide (i < j)
abbrev LCostsC (M : Md) (k : Nat) : Prop := Cal M k "_law_costs" [true] (fun fl : Floor => [encF fl]) FloorOk (fun fl d => ∃ kvs, d = .dk kvs ∧ IsCosts fl kvs)
abbrev LPlusC (M : Md) (k : Nat) : Prop := Cal M k "_law_plus" [true, true] (fun p : Option Int × Option Int => [encO p.1, encO p.2]) (fun _ => True) (fun p d => d = encO (oplus p.1 p.2))
abbrev LBelowC (M : Md) (k : Nat) : Prop := Cal M k "_law_below" [true, true] (fun p : Option Int × Option Int => [encO p.1, encO p.2]) (fun _ => True) (fun p d => d = .bl (belowB p.1 p.2))
abbrev LLeastOfC (M : Md) (k : Nat) : Prop := Cal M k "_law_least_of" [true] (fun xs : List (Option Int) => [.lst (xs.map encO)]) (fun xs => xs.length ≤ 100000) (fun xs d => ∀ o, IsMin xs o → d = encO o)
theorem isMin_snoc {xs : List (Option Int)} {o x : Option Int} (h : IsMin xs o) : IsMin (xs ++ [x]) (if belowB x o then x else o) := by
  cases x with
  | none =>
    show IsMin _ o
    cases o with
    | none => exact fun y hy => (List.mem_append.mp hy).elim (h y) fun z => List.mem_singleton.mp z
    | some n => exact ⟨List.mem_append_left _ h.1, fun m hm => (List.mem_append.mp hm).elim (h.2 m) fun z => by cases List.mem_singleton.mp z⟩
  | some i =>
    cases o with
    | none =>
      refine ⟨List.mem_append_right _ List.mem_cons_self, fun m hm => ?_⟩
      rcases List.mem_append.mp hm with hm | hm
      · cases h _ hm
      · cases List.mem_singleton.mp hm
        exact Int.le_refl _
    | some n =>
      by_cases e : i < n
      · rw [show belowB (some i) (some n) = true from decide_eq_true e, if_pos rfl]
        refine ⟨List.mem_append_right _ List.mem_cons_self, fun m hm => ?_⟩
        rcases List.mem_append.mp hm with hm | hm
        · have := h.2 m hm; omega
        · cases List.mem_singleton.mp hm
          exact Int.le_refl _
      · rw [show belowB (some i) (some n) = false from decide_eq_false e, if_neg (by decide)]
        refine ⟨List.mem_append_left _ h.1, fun m hm => ?_⟩
        rcases List.mem_append.mp hm with hm | hm
        · exact h.2 m hm
        · cases List.mem_singleton.mp hm
          omega
section
variable {M : Md} {k : Nat}
theorem ok_lcosts {f : Addr} {fd : FuncData} (F : Fun M.K "_law_costs" "_law_costs" s_lcosts f fd) :
    FnOk M.P M.w M.K M.mg M.base CX0 (k + 1) f fd ["_law_floor_here"] (SpD M.K [true] (fun fl : Floor => [encF fl]) FloorOk (fun fl d => ∃ kvs, d = .dk kvs ∧ IsCosts fl kvs)) := by
  refine fn_ok F S_lcosts rfl fun X S fl hf => ?_
  show DB X _ [some (.d (encF fl)), none, none, none] _ _ _ _
  have hl := hf.len
  refine db_cons (ds_ownK S ⟨_, by walk_at "ss", ?_⟩ (by walk_at "dk"))
  refine db_cons (ds_for S (di_tup ?_))
  walk_at "go"
  refine ⟨_, rfl, fun i δ => ∃ (kvs : List (Key × V)) (a b : Option SD), δ = [some (.d (encF fl)), some (.ok kvs), a, b] ∧ CostsAt fl i kvs, ⟨[], none, none, rfl, CostsAt.nil fl⟩, ?_, ?_⟩
  · rintro i d δ' hi ⟨kvs, a, b, rfl, hc⟩
    rw [List.getElem?_map] at hi
    obtain ⟨p, hp, rfl⟩ := Option.map_eq_some_iff.mp hi
    have hil := (List.getElem?_eq_some_iff.mp hp).1
    have hb := hf.ok p (List.mem_of_getElem? hp)
    have hlen := hc.len
    have l1 := length_putK kvs (kC p.1) (odV p.2)
    refine ⟨_, dg_tup S (dgs_cons (dg_name S (by walk_at "dk") ⟨_, by walk_at "ss", dgs_cons (dg_name S (by walk_at "dk") ⟨_, by walk_at "ss", dgs_nil ?_⟩)⟩))⟩
    refine db_cons (ds_dputK S (by walk_at "gt") (by walk_at "dk") (by omega) ?_)
    walk_at "go"
    refine ⟨odV p.2, kC p.1, (encO_od _).symm, rfl, _, by walk_at "ss", ?_⟩
    refine db_cons (ds_dputK S (by walk_at "gt") (by walk_at "dk") (by omega) ?_)
    walk_at "go"
    refine de_meth0 PySem.F.plainAttrs_str PySem.F.slot_str_upper PySem.F.type_str_upper ?_
    walk_at "go"
    refine ⟨tyw_str, mw_upper (by rw [len_tx]; show 1 ≤ _; decide) ?_⟩
    have e2 : Txt.upper (tx [p.1]) = tx ([p.1].map (· - 32)) := upper_tx _ fun c hc => by
      cases List.mem_singleton.mp hc
      exact ⟨hb.1, hb.2.1⟩
    rw [e2]
    refine ⟨odV p.2, kC (p.1 - 32), (encO_od _).symm, rfl, _, by walk_at "ss", ?_⟩
    walk_at "go"
    exact ⟨_, _, _, rfl, hc.step hf hp⟩
  · rintro δ' ⟨kvs, a, b, rfl, hc⟩
    rw [encF_len] at hc
    refine db_freezeK (x := "_law_found") (by walk_at "gt") ⟨_, by walk_at "ss", ?_⟩ S.nd
    walk_at "go"
    exact ⟨_, rfl, hc.full hf⟩
theorem ok_lplus {f : Addr} {fd : FuncData} (F : Fun M.K "_law_plus" "_law_plus" s_lplus f fd) :
    FnOk M.P M.w M.K M.mg M.base CX0 (k + 1) f fd ["_law_one", "_law_other"] (SpD M.K [true, true] (fun p : Option Int × Option Int => [encO p.1, encO p.2]) (fun _ => True) (fun p d => d = encO (oplus p.1 p.2))) := by
  refine fn_ok F S_lplus rfl fun X S ⟨a, b⟩ _ => ?_
  dsimp only
  show DB X _ [some (.d (encO a)), some (.d (encO b))] _ _ _ _
  cases a with
  | none =>
    walk_at "go"
    refine .isN ?_
    walk_at "go"
    rfl
  | some i =>
    cases b with
    | none =>
      walk_at "go"
      refine .isN ?_
      walk_at "go"
      refine .isN ?_
      walk_at "go"
      rfl
    | some j =>
      walk_at "go"
      refine .isN ?_
      walk_at "go"
      refine .isN ?_
      walk_at "go"
      rfl
theorem ok_lbelow {f : Addr} {fd : FuncData} (F : Fun M.K "_law_below" "_law_below" s_lbelow f fd) :
    FnOk M.P M.w M.K M.mg M.base CX0 (k + 1) f fd ["_law_one", "_law_other"] (SpD M.K [true, true] (fun p : Option Int × Option Int => [encO p.1, encO p.2]) (fun _ => True) (fun p d => d = .bl (belowB p.1 p.2))) := by
  refine fn_ok F S_lbelow rfl fun X S ⟨a, b⟩ _ => ?_
  dsimp only
  show DB X _ [some (.d (encO a)), some (.d (encO b))] _ _ _ _
  cases a with
  | none =>
    walk_at "go"
    refine de_and ?_
    walk_at "go"
    refine .notN ⟨_, rfl, (fun z => absurd z (by decide)), fun _ => ?_⟩
    rfl
  | some i =>
    walk_at "go"
    refine de_and ?_
    walk_at "go"
    refine .notN ⟨_, rfl, (fun _ => ?_), (fun z => absurd z (by simp))⟩
    refine de_one ?_
    refine de_or ?_
    cases b with
    | none =>
      walk_at "go"
      refine .isN ⟨_, rfl, (fun _ => ?_), (fun z => absurd z (by decide))⟩
      rfl
    | some j =>
      walk_at "go"
      refine .isN ⟨_, rfl, (fun z => absurd z (by simp)), fun _ => ?_⟩
      refine de_one ?_
      walk_at "go"
      refine .lt ?_
      rfl
end

/-! ### compares of costs -/
theorem oplus_zero (o : Option Int) : oplus o (some 0) = o := by
  cases o with
  | none => rfl
  | some a => exact congrArg some (Int.add_zero a)
theorem oplus_assoc (a b c : Option Int) : oplus (oplus a b) c = oplus a (oplus b c) := by
  cases a <;> cases b <;> cases c <;> simp [oplus, Int.add_assoc]
theorem oplus_comm (a b : Option Int) : oplus a b = oplus b a := by
  cases a <;> cases b <;> simp [oplus, Int.add_comm]
theorem eqO (a b : Option Int) : decide (odV a = odV b) = decide (a = b) := by
  cases a <;> cases b <;> simp [odV]
theorem scO (a b : Option Int) : scal (odV a) (odV b) = true := by cases a <;> cases b <;> rfl
theorem scO0 (a : Option Int) : scal (odV a) (.int 0) = true := by cases a <;> rfl
section
variable {Φ : Bool → Prop}
theorem neO {a b : Option Int} (h : a = b) (p : Φ false) : CmpW Φ .NotEq (encO a) (encO b) := by
  rw [← encO_od, ← encO_od]
  exact .neS (scO a b) (by rw [eqO, h, decide_eq_true rfl]; exact p)
theorem ne0 {a : Option Int} (h : a = some 0) (p : Φ false) : CmpW Φ .NotEq (encO a) (.int 0) := neO (b := some 0) h p
theorem eq0 {a : Option Int} (p : Φ (decide (a = some 0))) : CmpW Φ .Eq (encO a) (.int 0) := by
  have : CmpW Φ .Eq (encO a) (encO (some 0)) := by
    rw [← encO_od, ← encO_od]
    exact .eqS (scO a _) (by rw [eqO]; exact p)
  exact this
end
theorem tight_eq {r s : List Nat} (hr : Row r) (hs : Row s) : tight (back r ++ s) = [] ↔ tight r = tight s := by
  have hb := back_row hr
  constructor
  · intro h
    have h1 : tight (r ++ (back r ++ s)) = tight r := by
      rw [← tight_parts hr (row_app2 hb hs), h, List.append_nil, tight_tight]
    have h2 : tight ([] ++ ((r ++ back r) ++ s)) = tight ([] ++ s) := tight_mid (a := []) row_nil (row_app2 hr hb) hs (tight_self_back hr)
    rw [← h1, ← List.append_assoc]
    exact h2
  · intro h
    rw [← tight_parts hb hs, tight_back hr, h, ← tight_back hs, tight_parts (back_row hs) hs]
    have := tight_self_back (back_row hs)
    rwa [back_back hs] at this
theorem tight_sub (r : List Nat) : ∀ c ∈ tight r, c ∈ r := by
  unfold tight tightR
  suffices H : ∀ (r s : List Nat), ∀ c ∈ r.foldl stepT s, c ∈ r ∨ c ∈ s from fun c hc => (H r [] c (List.mem_reverse.mp hc)).elim id fun z => by cases z
  intro r
  induction r with
  | nil => intro s c hc; exact .inr hc
  | cons x r ih =>
    intro s c hc
    rw [List.foldl_cons] at hc
    rcases ih _ c hc with h | h
    · exact .inl (List.mem_cons_of_mem _ h)
    · have : ∀ y ∈ stepT s x, y = x ∨ y ∈ s := fun y hy => by
        unfold stepT at hy
        split at hy
        · exact .inl (List.mem_singleton.mp hy)
        · split at hy
          · exact .inr (List.mem_cons_of_mem _ hy)
          · exact (List.mem_cons.mp hy)
      rcases this c h with rfl | h
      · exact .inl List.mem_cons_self
      · exact .inr h
theorem below_no {a b : Option Int} (h : Ole b a) : belowB a b = false := by
  cases a with
  | none => rfl
  | some n =>
    obtain ⟨m, rfl, l⟩ := h n rfl
    exact decide_eq_false (by omega)
theorem eqOO {Φ : Bool → Prop} {a b : Option Int} (p : Φ (decide (a = b))) : CmpW Φ .Eq (encO a) (encO b) := by
  rw [← encO_od, ← encO_od]
  exact .eqS (scO a b) (by rw [eqO]; exact p)
theorem some_test {a : Option Int} : (!decide (odV a = V.non)) = a.isSome := by cases a <;> rfl
theorem at_zero {α : Type} (x : α) (l : List α) : atI (x :: l) 0 = some x := atI_nat (xs := x :: l) (j := 0) rfl

/-! ### whole numbers from one to another -/
def btw (lo hi : Int) : Da → Bool
  | .a (.int i) => decide (lo ≤ i ∧ i ≤ hi)
  | _ => false
abbrev BetweenC (M : Md) (k : Nat) : Prop := Cal M k "is_between" [true, true, true] (fun p : Da × Int × Int => [p.1, .int p.2.1, .int p.2.2]) (fun p => TyK p.1) (fun p d => d = .bl (btw p.2.1 p.2.2 p.1))
theorem btw_no {d : Da} {lo hi : Int} (k : TyK d) (h : isT "int" d = false ∨ isT "bool" d = true) : btw lo hi d = false := by
  cases d with
  | a v => cases v with
    | int i =>
      rcases h with h | h
      · rw [isT_int] at h; cases h
      · rw [isB_int] at h; cases h
    | _ => rfl
  | _ => rfl
section
variable {M : Md} {k : Nat}
theorem ok_isbetween {f : Addr} {fd : FuncData} (F : Fun M.K "is_between" "is_between" s_is_between f fd) (mi : M.mg "isinstance" = none) (mt : M.mg "int" = none) (mb : M.mg "bool" = none) :
    FnOk M.P M.w M.K M.mg M.base CX0 (k + 1) f fd ["thing", "low", "high"] (SpD M.K [true, true, true] (fun p : Da × Int × Int => [p.1, .int p.2.1, .int p.2.2]) (fun p => TyK p.1) (fun p d => d = .bl (btw p.2.1 p.2.2 p.1))) := by
  refine fn_ok F S_is_between rfl fun X S ⟨d, lo, hi⟩ hk => ?_
  dsimp only at hk ⊢
  show DB X _ [some (.d d), some (.d (.int lo)), some (.d (.int hi))] _ _ _ _
  walk_at "go"
  refine de_and ?_
  walk_at "go"
  refine bw_is hk (by decide) ⟨_, rfl, fun h1 => ?_, fun h1 => ?_⟩
  · refine de_and ?_
    refine de_not ?_
    walk_at "go"
    refine bw_is hk (by decide) ⟨_, rfl, _, rfl, fun h2 => ?_, fun h2 => ?_⟩
    · have h3 : isT "bool" d = false := by simpa using h2
      obtain ⟨i, rfl⟩ := int_of h1 h3 hk
      refine de_one ?_
      walk_at "go"
      refine .le ⟨fun g => ?_, fun g => ?_⟩
      · have g1 := of_decide_eq_true g
        walk_at "go"
        refine .le ?_
        show Da.bl _ = Da.bl (decide _)
        congr 1
        congr 1
        exact propext ⟨fun z => ⟨g1, z⟩, fun z => z.2⟩
      · have g1 := of_decide_eq_false g
        show Da.bl _ = Da.bl (decide _)
        rw [decide_eq_false fun z => g1 z.1]
    · have h3 : isT "bool" d = true := by simpa using h2
      rw [btw_no hk (.inr h3)]
  · rw [btw_no hk (.inl h1)]
end

/-! ### nestings -/
inductive NestI (w : Nat → Option Int) (r : List Nat) : Nat → Nat → List (Nat × Nat) → Int → Prop
  | nil {b : Nat} : NestI w r b 0 [] 0
  | del {b l c : Nat} {x n : Int} {ps : List (Nat × Nat)} : r[b]? = some c → w c = some x → NestI w r (b + 1) l ps n → NestI w r b (l + 1) ps (x + n)
  | pair {b i k c : Nat} {m n : Int} {ps qs : List (Nat × Nat)} : r[b]? = some c → r[b + 1 + i]? = some (und c) → NestI w r (b + 1) i ps m → NestI w r (b + 1 + i + 1) k qs n → NestI w r b (i + 2 + k) ((b, b + 1 + i) :: (ps ++ qs)) (m + n)
section
variable {w : Nat → Option Int} {r : List Nat}
theorem NestI.to {b l l' : Nat} {ps : List (Nat × Nat)} {n n' : Int} (h : NestI w r b l ps n) (e : l = l') (e2 : n = n') : NestI w r b l' ps n' := e ▸ e2 ▸ h
theorem NestI.le {b l : Nat} {ps : List (Nat × Nat)} {n : Int} (h : NestI w r b l ps n) : l = 0 ∨ b + l ≤ r.length := by
  induction h with
  | nil => exact .inl rfl
  | del hc _ _ ih =>
    have := (List.getElem?_eq_some_iff.mp hc).1
    right
    omega
  | pair hc hd _ _ ih1 ih2 =>
    have := (List.getElem?_eq_some_iff.mp hd).1
    right
    omega
/-- where pairs lie -/
theorem NestI.mem {b l : Nat} {ps : List (Nat × Nat)} {n : Int} (h : NestI w r b l ps n) : ∀ p ∈ ps, b ≤ p.1 ∧ p.1 < p.2 ∧ p.2 < b + l ∧ ∃ c, r[p.1]? = some c ∧ r[p.2]? = some (und c) := by
  induction h with
  | nil => intro p hp; cases hp
  | del hc _ _ ih =>
    intro p hp
    obtain ⟨h1, h2, h3, h4⟩ := ih p hp
    exact ⟨by omega, h2, by omega, h4⟩
  | @pair b i k c m n ps qs hc hd h1 h2 ih1 ih2 =>
    intro p hp
    rcases List.mem_cons.mp hp with rfl | hp
    · exact ⟨Nat.le_refl _, by show b < b + 1 + i; omega, by show b + 1 + i < b + (i + 2 + k); omega, c, hc, hd⟩
    · rcases List.mem_append.mp hp with hp | hp
      · obtain ⟨a1, a2, a3, a4⟩ := ih1 p hp
        exact ⟨by omega, a2, by omega, a4⟩
      · obtain ⟨a1, a2, a3, a4⟩ := ih2 p hp
        exact ⟨by omega, a2, by omega, a4⟩
theorem NestI.asc {b l : Nat} {ps : List (Nat × Nat)} {n : Int} (h : NestI w r b l ps n) : ps.Pairwise fun p q => p.1 < q.1 := by
  induction h with
  | nil => exact .nil
  | del _ _ _ ih => exact ih
  | @pair b i k c m n ps qs hc hd h1 h2 ih1 ih2 =>
    refine List.pairwise_cons.mpr ⟨fun q hq => ?_, List.pairwise_append.mpr ⟨ih1, ih2, fun p hp q hq => ?_⟩⟩
    · rcases List.mem_append.mp hq with hq | hq
      · have := (h1.mem q hq).1
        show b < q.1
        omega
      · have := (h2.mem q hq).1
        show b < q.1
        omega
    · have a := h1.mem p hp
      have b := (h2.mem q hq).1
      omega
/-- no place twice -/
theorem NestI.apart {b l : Nat} {ps : List (Nat × Nat)} {n : Int} (h : NestI w r b l ps n) : (ps.flatMap fun p => [p.1, p.2]).Nodup := by
  induction h with
  | nil => exact .nil
  | del _ _ _ ih => exact ih
  | @pair b i k c m n ps qs hc hd h1 h2 ih1 ih2 =>
    have m1 : ∀ z ∈ ps.flatMap fun p => [p.1, p.2], b + 1 ≤ z ∧ z < b + 1 + i := fun z hz => by
      obtain ⟨p, hp, hz⟩ := List.mem_flatMap.mp hz
      have a := h1.mem p hp
      rcases List.mem_cons.mp hz with rfl | hz
      · omega
      · rw [List.mem_singleton.mp hz]; omega
    have m2 : ∀ z ∈ qs.flatMap fun p => [p.1, p.2], b + 1 + i + 1 ≤ z := fun z hz => by
      obtain ⟨p, hp, hz⟩ := List.mem_flatMap.mp hz
      have a := h2.mem p hp
      rcases List.mem_cons.mp hz with rfl | hz
      · omega
      · rw [List.mem_singleton.mp hz]; omega
    rw [List.flatMap_cons, List.flatMap_append]
    show (b :: (b + 1 + i) :: ((ps.flatMap fun p => [p.1, p.2]) ++ (qs.flatMap fun p => [p.1, p.2]))).Nodup
    refine List.nodup_cons.mpr ⟨fun z => ?_, List.nodup_cons.mpr ⟨fun z => ?_, List.nodup_append.mpr ⟨ih1, ih2, fun x hx y hy e => ?_⟩⟩⟩
    · rcases List.mem_cons.mp z with z | z
      · omega
      · rcases List.mem_append.mp z with z | z
        · have := m1 _ z; omega
        · have := m2 _ z; omega
    · rcases List.mem_append.mp z with z | z
      · have := m1 _ z; omega
      · have := m2 _ z; omega
    · have := m1 _ hx
      have := m2 _ hy
      omega
/-- just one place of the one between those of the other -/
def across (p q : Nat × Nat) : Bool := decide (([p.1, p.2].filter fun z => decide (q.1 < z ∧ z < q.2)).length = 1)
theorem across_no {p q : Nat × Nat} (h1 : p.1 < p.2) (h : p = q ∨ p.2 < q.1 ∨ q.2 < p.1 ∨ (q.1 < p.1 ∧ p.2 < q.2) ∨ (p.1 < q.1 ∧ q.2 < p.2)) (h2 : q.1 < q.2) : across p q = false := by
  unfold across
  refine decide_eq_false fun e => ?_
  by_cases a : q.1 < p.1 ∧ p.1 < q.2
  · by_cases b : q.1 < p.2 ∧ p.2 < q.2
    · rw [List.filter_cons_of_pos (by simpa using a), List.filter_cons_of_pos (by simpa using b)] at e
      simp at e
    · rcases h with rfl | h | h | h | h <;> omega
  · by_cases b : q.1 < p.2 ∧ p.2 < q.2
    · rcases h with rfl | h | h | h | h <;> omega
    · rw [List.filter_cons_of_neg (by simpa using a), List.filter_cons_of_neg (by simpa using b)] at e
      simp at e
theorem NestI.cross {b l : Nat} {ps : List (Nat × Nat)} {n : Int} (h : NestI w r b l ps n) : ∀ p ∈ ps, ∀ q ∈ ps, across p q = false := by
  induction h with
  | nil => intro p hp; cases hp
  | del _ _ _ ih => exact ih
  | @pair b i k c m n ps qs hc hd h1 h2 ih1 ih2 =>
    intro p hp q hq
    have key : ∀ p ∈ (b, b + 1 + i) :: (ps ++ qs), p = (b, b + 1 + i) ∨ p ∈ ps ∨ p ∈ qs := fun p hp => by
      rcases List.mem_cons.mp hp with e | hp
      · exact .inl e
      · exact .inr (List.mem_append.mp hp)
    rcases key p hp with rfl | hp | hp
    · rcases key q hq with rfl | hq | hq
      · exact across_no (by show b < b + 1 + i; omega) (.inl rfl) (by show b < b + 1 + i; omega)
      · have a := h1.mem q hq
        exact across_no (by show b < b + 1 + i; omega) (.inr (.inr (.inr (.inr ⟨by show b < q.1; omega, by show q.2 < b + 1 + i; omega⟩)))) a.2.1
      · have a := h2.mem q hq
        exact across_no (by show b < b + 1 + i; omega) (.inr (.inl (by show b + 1 + i < q.1; omega))) a.2.1
    · have a := h1.mem p hp
      rcases key q hq with rfl | hq | hq
      · exact across_no a.2.1 (.inr (.inr (.inr (.inl ⟨by show b < p.1; omega, by show p.2 < b + 1 + i; omega⟩)))) (by show b < b + 1 + i; omega)
      · exact ih1 p hp q hq
      · have a2 := h2.mem q hq
        exact across_no a.2.1 (.inr (.inl (by omega))) a2.2.1
    · have a := h2.mem p hp
      rcases key q hq with rfl | hq | hq
      · exact across_no a.2.1 (.inr (.inr (.inl (by show b + 1 + i < p.1; omega)))) (by show b < b + 1 + i; omega)
      · have a2 := h1.mem q hq
        exact across_no a.2.1 (.inr (.inr (.inl (by omega)))) a2.2.1
      · exact ih2 p hp q hq
end
/-- what the turns in none of some pairs cost, in a stretch -/
def freeC (w : Nat → Option Int) (r : List Nat) (held : List Nat) (b l : Nat) : Option Int := (List.range l).foldl (fun acc i => if held.contains (b + i) then acc else oplus acc (w (r.getD (b + i) 0))) (some 0)
theorem freeC_succ (w : Nat → Option Int) (r : List Nat) (held : List Nat) (b l : Nat) : freeC w r held b (l + 1) = (if held.contains (b + l) then freeC w r held b l else oplus (freeC w r held b l) (w (r.getD (b + l) 0))) := by
  unfold freeC
  rw [List.range_succ, List.foldl_append]
  rfl
theorem freeC_add (w : Nat → Option Int) (r : List Nat) (held : List Nat) (b l k : Nat) : freeC w r held b (l + k) = oplus (freeC w r held b l) (freeC w r held (b + l) k) := by
  induction k with
  | zero => exact (oplus_zero _).symm
  | succ k ih =>
    rw [← Nat.add_assoc, freeC_succ, freeC_succ, ih, Nat.add_assoc b l k]
    split
    · rfl
    · rw [oplus_assoc]
theorem freeC_held {w : Nat → Option Int} {r : List Nat} {h1 h2 : List Nat} {b l : Nat} (h : ∀ i, i < l → h1.contains (b + i) = h2.contains (b + i)) : freeC w r h1 b l = freeC w r h2 b l := by
  induction l with
  | zero => rfl
  | succ l ih => rw [freeC_succ, freeC_succ, h l (by omega), ih fun i hi => h i (by omega)]
def places (ps : List (Nat × Nat)) : List Nat := ps.flatMap fun p => [p.1, p.2]
theorem places_mem {ps : List (Nat × Nat)} {z : Nat} : z ∈ places ps ↔ ∃ p ∈ ps, z = p.1 ∨ z = p.2 := by
  unfold places
  rw [List.mem_flatMap]
  simp
theorem NestI.free {w : Nat → Option Int} {r : List Nat} {b l : Nat} {ps : List (Nat × Nat)} {n : Int} (h : NestI w r b l ps n) : freeC w r (places ps) b l = some n := by
  induction h with
  | nil => rfl
  | @del b l c x n ps hc hx h1 ih =>
    have e : l + 1 = 1 + l := Nat.add_comm _ _
    rw [e, freeC_add, ih]
    have hn : (places ps).contains (b + 0) = false := by
      rw [Bool.eq_false_iff]
      intro z
      obtain ⟨p, hp, hz⟩ := places_mem.mp (List.contains_iff_mem.mp z)
      have := h1.mem p hp
      omega
    rw [freeC_succ, hn, if_neg (by decide)]
    have e0 : freeC w r (places ps) b 0 = some 0 := rfl
    rw [e0, Nat.add_zero, getD_of hc, hx]
    show some (0 + x + n) = some (x + n)
    rw [Int.zero_add]
  | @pair b i k c m n ps qs hc hd h1 h2 ih1 ih2 =>
    have e : i + 2 + k = 1 + (i + (1 + k)) := by omega
    rw [e, freeC_add, freeC_add, freeC_add]
    have c1 : (places ((b, b + 1 + i) :: (ps ++ qs))).contains (b + 0) = true := List.contains_iff_mem.mpr (places_mem.mpr ⟨(b, b + 1 + i), List.mem_cons_self, .inl rfl⟩)
    have c2 : (places ((b, b + 1 + i) :: (ps ++ qs))).contains (b + 1 + i + 0) = true := List.contains_iff_mem.mpr (places_mem.mpr ⟨(b, b + 1 + i), List.mem_cons_self, .inr rfl⟩)
    have e1 : freeC w r (places ((b, b + 1 + i) :: (ps ++ qs))) b 1 = some 0 := by rw [freeC_succ, c1, if_pos rfl]; rfl
    have e3 : freeC w r (places ((b, b + 1 + i) :: (ps ++ qs))) (b + 1 + i) 1 = some 0 := by rw [freeC_succ, c2, if_pos rfl]; rfl
    have e2 : freeC w r (places ((b, b + 1 + i) :: (ps ++ qs))) (b + 1) i = some m := by
      rw [← ih1]
      refine freeC_held fun j hj => ?_
      rw [Bool.eq_iff_iff, List.contains_iff_mem, List.contains_iff_mem, places_mem, places_mem]
      refine ⟨fun ⟨p, hp, hz⟩ => ?_, fun ⟨p, hp, hz⟩ => ⟨p, List.mem_cons_of_mem _ (List.mem_append_left _ hp), hz⟩⟩
      rcases List.mem_cons.mp hp with rfl | hp
      · dsimp only at hz; omega
      · rcases List.mem_append.mp hp with hp | hp
        · exact ⟨p, hp, hz⟩
        · have := h2.mem p hp; omega
    have e4 : freeC w r (places ((b, b + 1 + i) :: (ps ++ qs))) (b + 1 + i + 1) k = some n := by
      rw [← ih2]
      refine freeC_held fun j hj => ?_
      rw [Bool.eq_iff_iff, List.contains_iff_mem, List.contains_iff_mem, places_mem, places_mem]
      refine ⟨fun ⟨p, hp, hz⟩ => ?_, fun ⟨p, hp, hz⟩ => ⟨p, List.mem_cons_of_mem _ (List.mem_append_right _ hp), hz⟩⟩
      rcases List.mem_cons.mp hp with rfl | hp
      · dsimp only at hz; omega
      · rcases List.mem_append.mp hp with hp | hp
        · have := h1.mem p hp; omega
        · exact ⟨p, hp, hz⟩
    rw [e1, e2, e3, e4]
    show some (0 + (m + (0 + n))) = some (m + n)
    rw [Int.zero_add, Int.zero_add]
def encN2 (p : Nat × Nat) : Da := encI ((p.1 : Int), (p.2 : Int))
def encNs (ps : List (Nat × Nat)) : Da := .tup (ps.map encN2)
/-- a nesting of the least cost of a stretch -/
def NestOpt (w : Nat → Option Int) (r : List Nat) (b l : Nat) (ps : List (Nat × Nat)) : Prop := ∃ n, L w (sub r b l) = some n ∧ NestI w r b l ps n
def NestPost (p : Floor × List Nat) (d : Da) : Prop := (L (wF p.1) p.2 = none ∧ d = .non) ∨ ∃ ps n, L (wF p.1) p.2 = some n ∧ d = encNs ps ∧ NestI (wF p.1) p.2 0 p.2.length ps n
abbrev NestC (M : Md) (k : Nat) : Prop := Cal M k "nesting" [true, true] (fun p : Floor × List Nat => [encF p.1, .str (tx p.2)]) BestPre NestPost
inductive All2 {α β : Type} (R : α → β → Prop) : List α → List β → Prop
  | nil : All2 R [] []
  | cons {a : α} {b : β} {as : List α} {bs : List β} : R a b → All2 R as bs → All2 R (a :: as) (b :: bs)
theorem All2.snoc {α β : Type} {R : α → β → Prop} {as : List α} {bs : List β} {a : α} {b : β} (h : All2 R as bs) (r : R a b) : All2 R (as ++ [a]) (bs ++ [b]) := by
  induction h with
  | nil => exact .cons r .nil
  | cons r1 _ ih => exact .cons r1 ih
theorem All2.last {α β : Type} {R : α → β → Prop} : ∀ {as : List α} {bs : List β} {a : α}, All2 R (as ++ [a]) bs → ∃ bs0 b, bs = bs0 ++ [b] ∧ All2 R as bs0 ∧ R a b
  | [], _, _, .cons r .nil => ⟨[], _, rfl, .nil, r⟩
  | x :: as, _, _, .cons r t => by
    obtain ⟨bs0, b, e, h1, h2⟩ := All2.last t
    subst e
    exact ⟨_ :: bs0, b, rfl, .cons r h1, h2⟩
/-- where the walk stands: whatever nests what is left, it makes a nesting of all -/
def NestInv (w : Nat → Option Int) (r : List Nat) (found left : List (Nat × Nat)) : Prop :=
  (∀ p ∈ left, p.1 + p.2 ≤ r.length ∧ L w (sub r p.1 p.2) ≠ none) ∧ ∀ qss : List (List (Nat × Nat)), All2 (fun p qs => NestOpt w r p.1 p.2 qs) left qss → ∃ ps, NestOpt w r 0 r.length ps ∧ ps.Perm (found ++ qss.flatten)
def nestM (left : List (Nat × Nat)) : Nat := (left.map fun p => 2 * p.2 + 1).sum
/-- the ways of the least cost -/
theorem good_ways {w : Nat → Option Int} (W : WOk w) {r : List Nat} (hr : Row r) {b l : Nat} (hl : 1 ≤ l) (hb : b + l ≤ r.length) (hn : L w (sub r b l) ≠ none) :
    ∃ o rest, ((waysL w r b l).filter fun p => decide (p.1 = L w (sub r b l))).map (·.2) = o :: rest ∧
      ((o = none ∧ oplus (w (r.getD b 0)) (L w (sub r (b + 1) (l - 1))) = L w (sub r b l)) ∨
        ∃ i, o = some ((b + 1 + i : Nat) : Int) ∧ i < l - 1 ∧ r.getD (b + 1 + i) 0 = und (r.getD b 0) ∧ oplus (L w (sub r (b + 1) i)) (L w (sub r (b + 1 + i + 1) (l - i - 2))) = L w (sub r b l)) := by
  have hmin := waysL_min W hr hl hb
  obtain ⟨n, en⟩ : ∃ n, L w (sub r b l) = some n := by
    cases e : L w (sub r b l) with
    | none => exact absurd e hn
    | some n => exact ⟨n, rfl⟩
  rw [en] at hmin
  obtain ⟨p, hp, ep⟩ := List.mem_map.mp hmin.1
  have hpf : p ∈ (waysL w r b l).filter fun p => decide (p.1 = L w (sub r b l)) := List.mem_filter.mpr ⟨hp, by rw [en]; simpa using ep⟩
  cases hf : (waysL w r b l).filter fun p => decide (p.1 = L w (sub r b l)) with
  | nil => rw [hf] at hpf; cases hpf
  | cons q rest =>
    refine ⟨q.2, rest.map (·.2), rfl, ?_⟩
    have hq : q ∈ (waysL w r b l).filter fun p => decide (p.1 = L w (sub r b l)) := by rw [hf]; exact List.mem_cons_self
    obtain ⟨h1, h2⟩ := List.mem_filter.mp hq
    have h2 : q.1 = L w (sub r b l) := by simpa using h2
    unfold waysL at h1
    rcases List.mem_cons.mp h1 with rfl | h1
    · exact .inl ⟨rfl, h2⟩
    · obtain ⟨o, ho, rfl⟩ := List.mem_map.mp h1
      obtain ⟨ho1, ho2⟩ := List.mem_filter.mp ho
      obtain ⟨i, hi, rfl⟩ := List.mem_map.mp ho1
      have hi := List.mem_range.mp hi
      dsimp only at h2
      rw [show b + 1 + i - b - 1 = i by omega, show b + l - (b + 1 + i) - 1 = l - i - 2 by omega] at h2
      exact .inr ⟨i, rfl, hi, by simpa using ho2, h2⟩
theorem nestInv_zero {w : Nat → Option Int} (W : WOk w) {r : List Nat} {found left : List (Nat × Nat)} {b : Nat} (h : NestInv w r found (left ++ [(b, 0)])) : NestInv w r found left := by
  refine ⟨fun p hp => h.1 p (List.mem_append_left _ hp), fun qss hq => ?_⟩
  obtain ⟨ps, h1, h2⟩ := h.2 (qss ++ [[]]) (hq.snoc ⟨0, by show L w (sub r b 0) = some 0; rw [sub_zero, L_nil W], .nil⟩)
  exact ⟨ps, h1, by simpa using h2⟩
theorem nestInv_del {w : Nat → Option Int} (W : WOk w) {r : List Nat} {found left : List (Nat × Nat)} {b l c : Nat} (hc : r[b]? = some c) (h : NestInv w r found (left ++ [(b, l + 1)])) (e : oplus (w c) (L w (sub r (b + 1) l)) = L w (sub r b (l + 1))) :
    NestInv w r found (left ++ [(b + 1, l)]) := by
  obtain ⟨hb, hn⟩ := h.1 (b, l + 1) (by simp)
  dsimp only at hb hn
  obtain ⟨n, en⟩ : ∃ n, L w (sub r b (l + 1)) = some n := Option.isSome_iff_exists.mp (Option.isSome_iff_ne_none.mpr hn)
  rw [en] at e
  obtain ⟨x, y, e1, e2, rfl⟩ := oplus_some e
  refine ⟨fun p hp => ?_, fun qss hq => ?_⟩
  · rcases List.mem_append.mp hp with hp | hp
    · exact h.1 p (List.mem_append_left _ hp)
    · rw [List.mem_singleton.mp hp]
      exact ⟨by show b + 1 + l ≤ r.length; omega, by show L w (sub r (b + 1) l) ≠ none; rw [e2]; exact fun z => nomatch z⟩
  · obtain ⟨qs0, q, rfl, h1, n', h2, h3⟩ := hq.last
    dsimp only at h2 h3
    rw [e2] at h2
    cases h2
    exact h.2 _ (h1.snoc ⟨_, en, .del hc e1 h3⟩)
theorem nestInv_pair {w : Nat → Option Int} (W : WOk w) {r : List Nat} {found left : List (Nat × Nat)} {b i k c : Nat} (hc : r[b]? = some c) (hd : r[b + 1 + i]? = some (und c)) (h : NestInv w r found (left ++ [(b, i + 2 + k)])) (e : oplus (L w (sub r (b + 1) i)) (L w (sub r (b + 1 + i + 1) k)) = L w (sub r b (i + 2 + k))) :
    NestInv w r (found ++ [(b, b + 1 + i)]) (left ++ [(b + 1, i)] ++ [(b + 1 + i + 1, k)]) := by
  obtain ⟨hb, hn⟩ := h.1 (b, i + 2 + k) (by simp)
  dsimp only at hb hn
  obtain ⟨n, en⟩ : ∃ n, L w (sub r b (i + 2 + k)) = some n := Option.isSome_iff_exists.mp (Option.isSome_iff_ne_none.mpr hn)
  rw [en] at e
  obtain ⟨x, y, e1, e2, rfl⟩ := oplus_some e
  refine ⟨fun p hp => ?_, fun qss hq => ?_⟩
  · rcases List.mem_append.mp hp with hp | hp
    · rcases List.mem_append.mp hp with hp | hp
      · exact h.1 p (List.mem_append_left _ hp)
      · rw [List.mem_singleton.mp hp]
        exact ⟨by show b + 1 + i ≤ r.length; omega, by show L w (sub r (b + 1) i) ≠ none; rw [e1]; exact fun z => nomatch z⟩
    · rw [List.mem_singleton.mp hp]
      exact ⟨by show b + 1 + i + 1 + k ≤ r.length; omega, by show L w (sub r (b + 1 + i + 1) k) ≠ none; rw [e2]; exact fun z => nomatch z⟩
  · obtain ⟨qs1, q2, rfl, h1, n2, h2, h3⟩ := hq.last
    obtain ⟨qs0, q1, rfl, g1, n1, g2, g3⟩ := h1.last
    dsimp only at h2 h3 g2 g3
    rw [e2] at h2
    rw [e1] at g2
    cases h2
    cases g2
    obtain ⟨ps, k1, k2⟩ := h.2 _ (g1.snoc ⟨_, en, .pair hc hd g3 h3⟩)
    refine ⟨ps, k1, k2.trans ?_⟩
    rw [List.flatten_append, List.flatten_append, List.flatten_append]
    simp only [List.flatten_cons, List.flatten_nil, List.append_nil, List.append_assoc]
    refine List.Perm.append_left found ?_
    show (qs0.flatten ++ (b, b + 1 + i) :: (q1 ++ q2)).Perm ([(b, b + 1 + i)] ++ (qs0.flatten ++ (q1 ++ q2)))
    exact List.perm_middle
theorem nest_start {w : Nat → Option Int} {r : List Nat} (h : L w r ≠ none) : NestInv w r [] [(0, r.length)] := by
  refine ⟨fun p hp => ?_, fun qss hq => ?_⟩
  · rw [List.mem_singleton.mp hp]
    exact ⟨by simp, by show L w (sub r 0 r.length) ≠ none; rw [sub_all]; exact h⟩
  · cases hq with
    | cons h1 t =>
      cases t
      exact ⟨_, h1, by simp⟩
theorem ltI_of {ps : List (Nat × Nat)} (h : ps.Pairwise fun p q => p.1 < q.1) : (ps.map fun p => ((p.1 : Int), (p.2 : Int))).Pairwise ltI := by
  rw [List.pairwise_map]
  refine h.imp fun {p q} hpq => .inl ?_
  show (p.1 : Int) < (q.1 : Int)
  omega
theorem shp_pairs (l : List (Nat × Nat)) : Shp 2 (.lst (l.map encN2)) := .lst fun d hd => by
  obtain ⟨p, _, rfl⟩ := List.mem_map.mp hd
  exact .tup fun e he => by
    rcases List.mem_cons.mp he with rfl | he
    · exact .int _
    · rw [List.mem_singleton.mp he]; exact .int _
section
variable {M : Md} {k : Nat}
theorem ok_nesting {f : Addr} {fd : FuncData} (F : Fun M.K "nesting" "nesting" s_nesting f fd) (cB : BestC M k) (cC : CostsC M k) (cW : WaysC M k) (ml : M.mg "len" = none) (mt : M.mg "tuple" = none) (ms : M.mg "sorted" = none) :
    FnOk M.P M.w M.K M.mg M.base CX0 (k + 1) f fd ["floor", "row"] (SpD M.K [true, true] (fun p : Floor × List Nat => [encF p.1, .str (tx p.2)]) BestPre NestPost) := by
  refine fn_ok F S_nesting rfl fun X S ⟨fl, r⟩ hp => ?_
  obtain ⟨hf, hro, hrl⟩ : FloorOk fl ∧ RowOf fl r ∧ r.length ≤ 300 := hp
  show DB X _ [some (.d (encF fl)), some (.d (.str (tx r))), none, none, none, none, none, none, none, none, none] _ _ _ _
  have hr := hro.row hf
  have W := wF_ok hf
  have hS : (tx r).length ≤ sizeLine := by rw [len_tx]; exact sl1 (by omega)
  have hsc := S.hsc
  refine db_cons (ds_asg (hw := by generalize X.env = env at hsc; cases env; cases hsc; rfl) ?_)
  walk_at "go"
  refine ⟨(fl, r), rfl, ⟨hf, hro, hrl⟩, ?_⟩
  rintro _ ⟨kt, rfl, hkt⟩
  walk_at "go"
  refine ⟨fl, rfl, hf, ?_⟩
  rintro _ ⟨kc, rfl, hkc⟩
  walk_at "go"
  refine ⟨_, dg_tup S (dgs_cons (dg_name S (by walk_at "dk") ⟨_, by walk_at "ss", dgs_cons (dg_name S (by walk_at "dk") ⟨_, by walk_at "ss", dgs_nil ?_⟩)⟩))⟩
  have htab : TabTo (wF fl) r (r.length + 1) kt := hkt.at_
  walk_at "go"
  refine bw_lenS hS ?_
  rw [len_tx]
  walk_at "go"
  refine tab_ix (X := X) htab (b := 0) (l := r.length) rfl rfl (by omega) (by omega) ⟨_, rfl, ?_⟩
  rw [sub_all]
  walk_at "go"
  refine .isN ⟨fun h => ?_, fun h => ?_⟩
  · have hn : L (wF fl) r = none := by
      cases e : L (wF fl) r with
      | none => rfl
      | some n => rw [e] at h; exact absurd h (by simp [odV])
    walk_at "go"
    exact .inl ⟨hn, rfl⟩
  · have hn : L (wF fl) r ≠ none := fun e => by rw [e] at h; exact absurd h (by decide)
    refine db_nil ?_
    refine db_cons (ds_parOO S ?_ (by decide) (by walk_at "dk") (by walk_at "dk") (by intro env h; cases env; cases h; rfl) (by walk_at "dk") (by walk_at "dk"))
    walk_at "go"
    refine bw_lenS hS ?_
    rw [len_tx]
    walk_at "go"
    refine ⟨_, _, by walk_at "ss", by walk_at "ss", ?_⟩
    refine db_cons (ds_while S (fun m δ => ∃ (found left : List (Nat × Nat)) (a b c d e : Option SD), m = nestM left ∧ δ = [some (.d (encF fl)), some (.d (.str (tx r))), some (.d (.dt kt)), some (.d (.dk kc)), some (.ol (found.map encN2)), some (.ol (left.map encN2)), a, b, c, d, e] ∧ NestInv (wF fl) r found left ∧ found.length * 3 + nestM left ≤ 2 * r.length + 1)
      ⟨_, [], [(0, r.length)], none, none, none, none, none, rfl, rfl, nest_start hn, by simp [nestM]⟩ ?_)
    rintro m δ ⟨found, left, a, b, c, d, e, rfl, rfl, hinv, hsz⟩
    have hleft : left.length ≤ nestM left := by
      clear hinv hsz
      unfold nestM
      induction left with
      | nil => simp
      | cons p l ih => simp only [List.map_cons, List.sum_cons, List.length_cons]; omega
    walk_at "go"
    refine cmp_neNil (shp_pairs left) ⟨fun h => ?_, fun h => ?_⟩
    · -- one stretch is taken
      obtain ⟨left0, p, rfl⟩ : ∃ left0 p, left = left0 ++ [p] := by
        cases hl : left.reverse with
        | nil =>
          have : left = [] := by rw [← List.reverse_reverse left, hl]; rfl
          rw [this] at h
          simp at h
        | cons p l => exact ⟨l.reverse, p, by rw [← List.reverse_reverse left, hl, List.reverse_cons]⟩
      obtain ⟨bg, lg⟩ := p
      have hM : nestM (left0 ++ [(bg, lg)]) = nestM left0 + (2 * lg + 1) := by simp [nestM]
      have hmap : (left0 ++ [(bg, lg)]).map encN2 = left0.map encN2 ++ [.tup [.int (bg : Int), .int (lg : Int)]] := by simp [encN2, encI]
      rw [hmap]
      obtain ⟨hbl, hLn⟩ := hinv.1 (bg, lg) (by simp)
      dsimp only at hbl hLn
      rw [hM] at hsz hleft
      have hl0 : left0.length ≤ 1000 := by
        rw [List.length_append, List.length_singleton] at hleft
        omega
      refine db_cons (ds_popTo S (by walk_at "gt") (by walk_at "dk") ⟨_, by walk_at "ss", _, dg_tup S (dgs_cons (dg_name S (by walk_at "dk") ⟨_, by walk_at "ss", dgs_cons (dg_name S (by walk_at "dk") ⟨_, by walk_at "ss", dgs_nil ?_⟩)⟩))⟩)
      walk_at "go"
      refine .gt ⟨fun hg => ?_, fun hg => ?_⟩
      · have hlg : 0 < lg := by have := of_decide_eq_true hg; omega
        obtain ⟨l, rfl⟩ : ∃ l, lg = l + 1 := ⟨lg - 1, by omega⟩
        obtain ⟨ch, hch⟩ : ∃ ch, r[bg]? = some ch := ⟨r[bg], List.getElem?_eq_getElem (by omega)⟩
        obtain ⟨o, rest, hgood, hcase⟩ := good_ways W hr (b := bg) (l := l + 1) (by omega) hbl hLn
        have hwl := waysL_len (wF fl) r bg (l + 1) (by omega)
        walk_at "go"
        refine ds_setLc1 S (di_lst ?_) (by walk_at "dk") (by walk_at "dk") (by walk_at "dk")
        walk_at "go"
        refine ⟨⟨fl, r, kc, kt, bg, l + 1⟩, rfl, ⟨hf, hro, hrl, hkc, fun b l' h1 h2 => htab b l' h1 (by have h3 : l' < l + 1 := h2; omega), by show 1 ≤ l + 1; omega, hbl⟩, ?_⟩
        rintro _ rfl
        dsimp only
        refine ⟨_, rfl, ?_⟩
        refine lc_filter (g := encW) (p := fun p => decide (p.1 = L (wF fl) (sub r bg (l + 1)))) (f := fun p => encO p.2) (by walk_at "wp") (by omega) (fun X1 S1 p hp => ?_) ?_
        · obtain ⟨q, s⟩ := p
          refine dg_tup S1 (ds := [encO q, encO s]) (dgs_cons (dg_name S1 (by walk_at "dk") ⟨_, by walk_at "ss", dgs_cons (dg_name S1 (by walk_at "dk") ⟨_, by walk_at "ss", dgs_nil fun X2 S2 => ?_⟩)⟩))
          walk_at "go"
          refine tab_ix (X := X2) htab (b := bg) (l := l + 1) rfl rfl hbl (by omega) ⟨_, rfl, ?_⟩
          rw [encO_od]
          refine eqOO ⟨rfl, fun _ X3 S3 => ?_⟩
          walk_at "go"
          rfl
        have hgm : ((waysL (wF fl) r bg (l + 1)).filter fun p => decide (p.1 = L (wF fl) (sub r bg (l + 1)))).map (fun p => encO p.2) = encO o :: rest.map encO := by
          have := congrArg (List.map encO) hgood
          rw [List.map_map] at this
          exact this
        rw [hgm]
        refine ⟨_, by walk_at "ss", ?_⟩
        walk_at "go"
        refine .lst (at_zero _ _) ?_
        rcases hcase with ⟨rfl, he⟩ | ⟨i, rfl, hi, hri, he⟩
        · rw [show encO none = Da.a V.non from rfl]
          walk_at "go"
          refine .isN ⟨fun _ => ?_, fun z => absurd z (by decide)⟩
          rw [getD_of hch, Nat.add_sub_cancel] at he
          walk_at "go"
          rotate_left
          · rw [List.length_map]; omega
          refine ⟨_, by walk_at "ss", ?_⟩
          walk_at "go"
          have e2 : left0.map encN2 ++ [.tup [.int ((bg : Int) + 1), .int (((l + 1 : Nat) : Int) - 1)]] = (left0 ++ [(bg + 1, l)]).map encN2 := by
            rw [List.map_append, show ((l + 1 : Nat) : Int) - 1 = (l : Int) by omega]
            rfl
          rw [e2]
          have hM2 : nestM (left0 ++ [(bg + 1, l)]) = nestM left0 + (2 * l + 1) := by simp [nestM]
          exact ⟨_, by omega, found, _, _, _, _, _, _, rfl, rfl, nestInv_del W hch hinv he, by omega⟩
        · rw [show encO (some ((bg + 1 + i : Nat) : Int)) = Da.a (V.int ((bg + 1 + i : Nat) : Int)) from rfl]
          walk_at "go"
          refine .isN ⟨fun z => absurd z (by simp), fun _ => ?_⟩
          obtain ⟨kk, hkk⟩ : ∃ kk, l + 1 = i + 2 + kk := ⟨l + 1 - i - 2, by omega⟩
          have hoth : r[bg + 1 + i]? = some (und ch) := by
            have hlt : bg + 1 + i < r.length := by omega
            rw [getD_of hch] at hri
            rw [List.getElem?_eq_getElem hlt]
            rw [getD_of (List.getElem?_eq_getElem hlt)] at hri
            rw [hri]
          have hk2 : l + 1 - i - 2 = kk := by omega
          rw [hk2] at he
          have hM3 : nestM (left0 ++ [(bg + 1, i)] ++ [(bg + 1 + i + 1, kk)]) = nestM left0 + (2 * i + 1) + (2 * kk + 1) := by simp [nestM]; omega
          have hfl : found.length ≤ 1000 := by omega
          have hat : ∀ {X : Cx} {Ψ : Da → Prop}, Ψ (.int ((bg + 1 + i : Nat) : Int)) → IxW Ψ (.lst (encO (some ((bg + 1 + i : Nat) : Int)) :: rest.map encO)) (.int 0) := fun {X Ψ} p => .lst (at_zero _ _) p
          rw [show Da.a (V.int ((bg + 1 + i : Nat) : Int)) = encO (some ((bg + 1 + i : Nat) : Int)) from rfl]
          walk_at "go"
          rotate_left
          · rw [List.length_map]; omega
          refine hat (X := X) ?_
          walk_at "go"
          refine ⟨_, by walk_at "ss", ?_⟩
          walk_at "go"
          rotate_left
          · rw [List.length_map]; omega
          refine hat (X := X) ?_
          walk_at "go"
          refine ⟨_, by walk_at "ss", ?_⟩
          walk_at "go"
          rotate_left
          · rw [List.length_append, List.length_map, List.length_singleton]; omega
          refine hat (X := X) ?_
          walk_at "go"
          refine hat (X := X) ?_
          walk_at "go"
          refine ⟨_, by walk_at "ss", ?_⟩
          walk_at "go"
          rw [hkk] at hinv he
          have hi2 := nestInv_pair W hch hoth hinv he
          have ef : found.map encN2 ++ [.tup [.int (bg : Int), .int ((bg + 1 + i : Nat) : Int)]] = (found ++ [(bg, bg + 1 + i)]).map encN2 := by rw [List.map_append]; rfl
          have el : left0.map encN2 ++ [.tup [.int ((bg : Int) + 1), .int (((bg + 1 + i : Nat) : Int) - (bg : Int) - 1)]] ++ [.tup [.int (((bg + 1 + i : Nat) : Int) + 1), .int ((bg : Int) + ((l + 1 : Nat) : Int) - ((bg + 1 + i : Nat) : Int) - 1)]] = (left0 ++ [(bg + 1, i)] ++ [(bg + 1 + i + 1, kk)]).map encN2 := by
            rw [List.map_append, List.map_append, show ((bg + 1 + i : Nat) : Int) - (bg : Int) - 1 = (i : Int) by omega, show (bg : Int) + ((l + 1 : Nat) : Int) - ((bg + 1 + i : Nat) : Int) - 1 = (kk : Int) by omega]
            rfl
          rw [ef, el]
          exact ⟨_, by omega, _, _, _, _, _, _, _, rfl, rfl, hi2, by rw [List.length_append, List.length_singleton]; omega⟩
      · have hlg : lg = 0 := by have := of_decide_eq_false hg; omega
        subst hlg
        refine db_nil (db_nil ?_)
        exact ⟨_, by omega, found, left0, _, _, _, _, _, rfl, rfl, nestInv_zero W hinv, by omega⟩
    · have hl : left = [] := by
        cases left with
        | nil => rfl
        | cons p l => simp at h
      subst hl
      obtain ⟨ps, ⟨n, en, hN⟩, hperm⟩ := hinv.2 [] .nil
      rw [sub_all] at en
      refine db_freezeL (x := "found") (by walk_at "gt") ⟨_, by walk_at "ss", ?_⟩ S.nd
      walk_at "go"
      have e1 : found.map encN2 = (found.map fun p => ((p.1 : Int), (p.2 : Int))).map encI := by rw [List.map_map]; rfl
      rw [e1]
      refine bw_sortP (qs := ps.map fun p => ((p.1 : Int), (p.2 : Int))) ((by simpa using hperm : ps.Perm found).map _) (ltI_of hN.asc) ?_
      walk_at "go"
      refine bw_tupleL ?_
      rw [List.map_map]
      exact .inr ⟨ps, n, en, rfl, hN⟩
end

/-! ### mathematics: one lifting, and lists of them -/
def cycN : Nat → List Nat → List Nat
  | 0, s => s
  | n + 1, s => if 1 < s.length ∧ s.getD 0 0 = und (s.getD (s.length - 1) 0) then cycN n (s.drop 1).dropLast else s
theorem cycN_eq : ∀ (n m : Nat) (s : List Nat), s.length ≤ n → s.length ≤ m → cycN n s = cycN m s
  | 0, 0, _, _, _ => rfl
  | 0, m + 1, s, h, _ => by
    have e : s = [] := List.length_eq_zero_iff.mp (by omega)
    subst e
    exact (if_neg (by simp)).symm
  | n + 1, 0, s, _, h => by
    have e : s = [] := List.length_eq_zero_iff.mp (by omega)
    subst e
    exact if_neg (by simp)
  | n + 1, m + 1, s, h1, h2 => by
    unfold cycN
    split
    · refine cycN_eq n m _ ?_ ?_ <;> simp <;> omega
    · rfl
/-- a row as a ring, drawn tight -/
def cyc (s : List Nat) : List Nat := cycN s.length s
theorem cyc_step {s : List Nat} (h : 1 < s.length ∧ s.getD 0 0 = und (s.getD (s.length - 1) 0)) : cyc s = cyc (s.drop 1).dropLast := by
  obtain ⟨n, e⟩ : ∃ n, s.length = n + 1 := ⟨s.length - 1, by omega⟩
  unfold cyc
  rw [e]
  show (if _ then _ else _) = _
  rw [if_pos h]
  exact cycN_eq _ _ _ (by simp; omega) (Nat.le_refl _)
theorem cyc_stop {s : List Nat} (h : ¬ (1 < s.length ∧ s.getD 0 0 = und (s.getD (s.length - 1) 0))) : cyc s = s := by
  unfold cyc
  cases e : s.length with
  | zero => rfl
  | succ n => exact if_neg h
theorem cyc_wrap {x : Nat} {s : List Nat} : cyc (und x :: (s ++ [x])) = cyc s := by
  have e : (und x :: (s ++ [x])).drop 1 = s ++ [x] := rfl
  rw [cyc_step, e, List.dropLast_concat]
  refine ⟨by simp, ?_⟩
  have e2 : (und x :: (s ++ [x])).length - 1 = s.length + 1 := by simp
  rw [e2, List.getD_cons_zero, List.getD_cons_succ]
  congr 1
  rw [List.getD_eq_getElem?_getD, List.getElem?_append_right (Nat.le_refl _), Nat.sub_self]
  rfl
theorem cyc_conj (u : Nat) (q : List Nat) : cyc (back q ++ u :: q) = [u] := by
  suffices H : ∀ p : List Nat, cyc (back p.reverse ++ u :: p.reverse) = [u] by
    have := H q.reverse
    rwa [List.reverse_reverse] at this
  intro p
  induction p with
  | nil => exact cyc_stop (by simp [back])
  | cons x p ih =>
    rw [List.reverse_cons, back_app]
    have e : back [x] ++ back p.reverse ++ u :: (p.reverse ++ [x]) = und x :: ((back p.reverse ++ u :: p.reverse) ++ [x]) := by simp [back]
    rw [e, cyc_wrap, ih]
theorem red_back : ∀ {q m : List Nat} {x : Nat}, RedS (und x :: m) → RedS (x :: q) → Row (x :: q) → RedS (back q ++ und x :: m)
  | [], m, x, h, _, _ => h
  | y :: q, m, x, h, hq, hr => by
    have e : back (y :: q) ++ und x :: m = back q ++ und y :: (und x :: m) := by simp [back]
    rw [e]
    refine red_back (x := y) (m := und x :: m) ⟨?_, h⟩ hq.tail fun z hz => hr z (List.mem_cons_of_mem _ hz)
    rw [und_und (hr y (by simp))]
    exact fun z => hq.1 z.symm
theorem tight_conj {u : Nat} (hu : IsT u) : ∀ {q : List Nat}, RedS q → Row q → ∃ p, Row p ∧ tight (back q ++ u :: q) = back p ++ u :: p
  | [], _, _ => ⟨[], row_nil, tight_of_red (r := [u]) trivial⟩
  | x :: q, hq, hr => by
    have hx := hr x (by simp)
    have hrq : Row q := fun z hz => hr z (List.mem_cons_of_mem _ hz)
    have e : back (x :: q) ++ u :: x :: q = back q ++ und x :: u :: (x :: q) := by simp [back]
    by_cases h1 : u = x
    · obtain ⟨p, hp, ep⟩ := tight_conj hu hq.tail hrq
      rw [e, tight_cut (back_row hrq) (und_T hx) hu (by rw [h1]), ← h1]
      exact ⟨p, hp, ep⟩
    · by_cases h2 : u = und x
      · obtain ⟨p, hp, ep⟩ := tight_conj hu hq.tail hrq
        have e2 : back q ++ und x :: u :: (x :: q) = (back q ++ [und x]) ++ u :: x :: q := by simp
        rw [e, e2, tight_cut (row_app2 (back_row hrq) fun z hz => by rw [List.mem_singleton.mp hz]; exact und_T hx) hu hx h2]
        have e3 : back q ++ [und x] ++ q = back q ++ u :: q := by rw [h2]; simp
        rw [e3]
        exact ⟨p, hp, ep⟩
      · refine ⟨x :: q, hr, tight_of_red (red_rev ?_ ?_)⟩
        · exact row_app2 (back_row hr) fun z hz => (List.mem_cons.mp hz).elim (fun z => z ▸ hu) (hr z)
        · rw [e]
          refine red_back (m := u :: x :: q) ⟨?_, ?_, hq⟩ hq hr
          · rw [und_und hx]
            exact h1
          · intro z
            exact h2 (und_eq hx z hu)
theorem redS_tight {r : List Nat} (hr : Row r) : RedS (tight r) := red_rev' (tight_row hr) (tight_red r)
theorem tight_left {a b : List Nat} (ha : Row a) (hb : Row b) : tight (tight a ++ b) = tight (a ++ b) := by rw [← tight_parts (tight_row ha) hb, tight_tight, tight_parts ha hb]
theorem tight_right {a b : List Nat} (ha : Row a) (hb : Row b) : tight (a ++ tight b) = tight (a ++ b) := by rw [← tight_parts ha (tight_row hb), tight_tight, tight_parts ha hb]
theorem row_one {c : Nat} (h : IsT c) : Row [c] := fun z hz => by rw [List.mem_singleton.mp hz]; exact h
/-- the turn that one lifting puts in -/
def chg (a b : List Nat) : Option Nat := match cyc (tight (back a ++ b)) with
  | [c] => some c
  | _ => none
theorem chg_some {a b : List Nat} {c : Nat} (h : chg a b = some c) : cyc (tight (back a ++ b)) = [c] := by
  unfold chg at h
  split at h
  · rename_i d e
    cases h
    exact e
  · cases h
theorem chg_of {a b : List Nat} {c : Nat} (h : cyc (tight (back a ++ b)) = [c]) : chg a b = some c := by
  unfold chg
  rw [h]
theorem chg_tight {a b : List Nat} (ha : Row a) (hb : Row b) : chg (tight a) (tight b) = chg a b := by
  unfold chg
  rw [← tight_back ha, tight_parts (back_row ha) hb]
theorem cyc_around {u : Nat} {q : List Nat} (hu : IsT u) (hq : Row q) : cyc (tight (back q ++ u :: q)) = [u] := by
  have e : tight (back q ++ u :: q) = tight (back (tight q) ++ u :: tight q) := by
    have hb := back_row hq
    rw [← tight_back hq, tight_left hb (fun z hz => (List.mem_cons.mp hz).elim (fun z => z ▸ hu) (tight_row hq z)), show back q ++ u :: q = (back q ++ [u]) ++ q by simp, show back q ++ u :: tight q = (back q ++ [u]) ++ tight q by simp, tight_right (row_app2 hb (row_one hu)) hq]
  rw [e]
  obtain ⟨p, _, ep⟩ := tight_conj hu (redS_tight hq) (tight_row hq)
  rw [ep, cyc_conj]
theorem tight_backself {p : List Nat} (hp : Row p) : tight (back p ++ p) = [] := by
  have := tight_self_back (back_row hp)
  rwa [back_back hp] at this
theorem chg_del {p q : List Nat} {c : Nat} (hp : Row p) (hq : Row q) (hc : IsT c) : chg (p ++ c :: q) (p ++ q) = some (und c) := by
  refine chg_of ?_
  have e : back (p ++ c :: q) ++ (p ++ q) = (back q ++ [und c]) ++ ((back p ++ p) ++ q) := by simp [back]
  rw [e, tight_mid (row_app2 (back_row hq) (row_one (und_T hc))) (row_app2 (back_row hp) hp) hq (tight_backself hp)]
  have := cyc_around (und_T hc) hq
  simpa using this
theorem chg_ins {p q : List Nat} {c : Nat} (hp : Row p) (hq : Row q) (hc : IsT c) : chg (p ++ q) (p ++ c :: q) = some c := by
  refine chg_of ?_
  have e : back (p ++ q) ++ (p ++ c :: q) = back q ++ ((back p ++ p) ++ c :: q) := by simp [back]
  rw [e, tight_mid (back_row hq) (row_app2 (back_row hp) hp) (fun z hz => (List.mem_cons.mp hz).elim (fun z => z ▸ hc) (hq z)) (tight_backself hp)]
  exact cyc_around hc hq
section
variable {w : Nat → Option Int}
theorem Cst.uncyc {x : Int} : ∀ {n : Nat} {s : List Nat}, Row s → Cst w (cycN n s) x → Cst w s x
  | 0, _, _, h => h
  | n + 1, s, hr, h => by
    unfold cycN at h
    split at h
    · rename_i hc
      obtain ⟨h1, h2⟩ := hc
      obtain ⟨a, t, rfl⟩ : ∃ a t, s = a :: t := by
        cases s with
        | nil => simp at h1
        | cons a t => exact ⟨a, t, rfl⟩
      have ht : t ≠ [] := fun e => by subst e; simp at h1
      obtain ⟨m, y, rfl⟩ : ∃ m y, t = m ++ [y] := ⟨t.dropLast, t.getLast ht, (List.dropLast_concat_getLast ht).symm⟩
      have e1 : (a :: (m ++ [y])).drop 1 = m ++ [y] := rfl
      rw [e1, List.dropLast_concat] at h
      have e2 : (a :: (m ++ [y])).length - 1 = m.length + 1 := by simp
      rw [e2, List.getD_cons_zero, List.getD_cons_succ, List.getD_eq_getElem?_getD, List.getElem?_append_right (Nat.le_refl _), Nat.sub_self] at h2
      have h2 : a = und y := h2
      have hy : IsT y := hr y (by simp)
      have hm : Row m := fun z hz => hr z (List.mem_cons_of_mem _ (List.mem_append_left _ hz))
      have := Cst.uncyc hm h
      subst h2
      exact (Cst.pair (b := []) (und_T hy) this .nil).to (by rw [und_und hy]) (by omega)
    · exact h
/-- what a lifting costs is enough -/
theorem chg_cst (W : WOk w) {a b : List Nat} (ha : Row a) (hb : Row b) {c : Nat} {x : Int} (h : chg a b = some c) (hx : w c = some x) : Cst w (back a ++ b) x := by
  have hr : Row (back a ++ b) := row_app2 (back_row ha) hb
  refine Cst.untight W hr (Cst.uncyc (tight_row hr) (n := (tight (back a ++ b)).length) ?_)
  have e := chg_some h
  unfold cyc at e
  rw [e]
  have hc : IsT c := by
    have : ∀ n s, Row s → Row (cycN n s) := by
      intro n
      induction n with
      | zero => exact fun s h => h
      | succ n ih =>
        intro s hs
        unfold cycN
        split
        · exact ih _ fun z hz => hs z (List.mem_of_mem_drop (List.dropLast_subset _ hz))
        · exact hs
    exact this _ _ (tight_row hr) c (by rw [e]; simp)
  exact Cst.one hc hx
def lstep (w : Nat → Option Int) (a b : List Nat) : Option Int := (chg a b).bind w
def lcR (w : Nat → Option Int) : List (List Nat) → Option Int
  | a :: b :: ts => oplus (lstep w a b) (lcR w (b :: ts))
  | _ => some 0
theorem zero_oplus (a : Option Int) : oplus (some 0) a = a := by
  cases a with
  | none => rfl
  | some x => show some (0 + x) = some x; rw [Int.zero_add]
theorem lcR_join : ∀ (l : List (List Nat)) (z : List Nat) (r : List (List Nat)), lcR w (l ++ z :: r) = oplus (lcR w (l ++ [z])) (lcR w (z :: r))
  | [], z, r => (zero_oplus _).symm
  | [x], z, r => by
    show oplus (lstep w x z) (lcR w (z :: r)) = oplus (oplus (lstep w x z) (some 0)) _
    rw [oplus_zero]
  | x :: y :: l, z, r => by
    show oplus (lstep w x y) (lcR w ((y :: l) ++ z :: r)) = oplus (oplus (lstep w x y) (lcR w ((y :: l) ++ [z]))) _
    rw [lcR_join (y :: l), oplus_assoc]
theorem lcR_snoc (l : List (List Nat)) (a b : List Nat) : lcR w (l ++ [a, b]) = oplus (lcR w (l ++ [a])) (lstep w a b) := by
  rw [show l ++ [a, b] = l ++ a :: [b] by rfl, lcR_join]
  show oplus _ (oplus (lstep w a b) (some 0)) = _
  rw [oplus_zero]
/-- a whole list of liftings is enough -/
theorem lcR_cst (W : WOk w) : ∀ {ts : List (List Nat)} {a z : List Nat} {n : Int}, (∀ t ∈ ts, Row t) → ts.head? = some a → ts.getLast? = some z → lcR w ts = some n → ∃ m, m ≤ n ∧ Cst w (back a ++ z) m
  | [], _, _, _, _, h, _, _ => by cases h
  | [t], a, z, n, hr, h1, h2, h3 => by
    cases h1
    cases h2
    have h3 : some (0 : Int) = some n := h3
    cases h3
    have ht := hr t (by simp)
    exact ⟨0, Int.le_refl _, by have := Cst.selfBack (w := w) (back_row ht); rwa [back_back ht] at this⟩
  | t :: u :: ts, a, z, n, hr, h1, h2, h3 => by
    cases h1
    have h3 : oplus (lstep w t u) (lcR w (u :: ts)) = some n := h3
    obtain ⟨x, y, e1, e2, rfl⟩ := oplus_some h3
    have h2 : (u :: ts).getLast? = some z := by rw [← h2]; exact (List.getLast?_cons_cons).symm
    obtain ⟨m, hm, hc⟩ := lcR_cst W (a := u) (fun t ht => hr t (List.mem_cons_of_mem _ ht)) rfl h2 e2
    unfold lstep at e1
    obtain ⟨c, hc1, hc2⟩ := Option.bind_eq_some_iff.mp e1
    have hu := hr u (by simp)
    have h4 := chg_cst W (hr t (by simp)) hu hc1 hc2
    obtain ⟨k, hk, h5⟩ := Cst.cutMid W (t := u) (a := back t) (b := z) ((h4.app hc).to (by simp) rfl)
    exact ⟨k, by omega, h5⟩
/-! ### turns left out one by one -/
def wo (r : List Nat) : List Nat → List (List Nat)
  | [] => [r]
  | p :: ps => r :: wo (r.eraseIdx p) ps
theorem wo_head (r : List Nat) (ps : List Nat) : ∃ t, wo r ps = r :: t := by cases ps <;> exact ⟨_, rfl⟩
def fsum (g : Nat → Option Int) : List Nat → Option Int
  | [] => some 0
  | p :: ps => oplus (g p) (fsum g ps)
theorem fsum_app (g : Nat → Option Int) : ∀ a b : List Nat, fsum g (a ++ b) = oplus (fsum g a) (fsum g b)
  | [], b => (zero_oplus _).symm
  | p :: a, b => by
    show oplus (g p) (fsum g (a ++ b)) = oplus (oplus (g p) (fsum g a)) _
    rw [fsum_app g a b, oplus_assoc]
theorem fsum_congr {g h : Nat → Option Int} : ∀ {a : List Nat}, (∀ p ∈ a, g p = h p) → fsum g a = fsum h a
  | [], _ => rfl
  | p :: a, e => by
    show oplus (g p) (fsum g a) = oplus (h p) (fsum h a)
    rw [e p (by simp), fsum_congr fun q hq => e q (List.mem_cons_of_mem _ hq)]
theorem fsum_map (g : Nat → Option Int) (f : Nat → Nat) : ∀ a : List Nat, fsum g (a.map f) = fsum (fun p => g (f p)) a
  | [] => rfl
  | p :: a => by
    show oplus _ (fsum g (a.map f)) = oplus _ _
    rw [fsum_map g f a]
theorem erase_split {r : List Nat} {p : Nat} (h : p < r.length) : r = r.take p ++ r.getD p 0 :: r.drop (p + 1) ∧ r.eraseIdx p = r.take p ++ r.drop (p + 1) := by
  refine ⟨?_, List.eraseIdx_eq_take_drop_succ ..⟩
  have e : r.getD p 0 = r[p] := by rw [List.getD_eq_getElem?_getD, List.getElem?_eq_getElem h]; rfl
  rw [e, ← List.drop_eq_getElem_cons h, List.take_append_drop]
theorem getD_erase {r : List Nat} {p q : Nat} (h : q < p) : (r.eraseIdx p).getD q 0 = r.getD q 0 := by
  rw [List.getD_eq_getElem?_getD, List.getD_eq_getElem?_getD, List.getElem?_eraseIdx_of_lt h]
theorem row_erase {r : List Nat} (h : Row r) (p : Nat) : Row (r.eraseIdx p) := fun c hc => h c (List.mem_of_mem_eraseIdx hc)
theorem row_getD {r : List Nat} (h : Row r) {p : Nat} (hp : p < r.length) : IsT (r.getD p 0) := by
  rw [List.getD_eq_getElem?_getD, List.getElem?_eq_getElem hp]
  exact h _ (List.getElem_mem hp)
theorem lstep_del (W : WOk w) {r : List Nat} (hr : Row r) {p : Nat} (hp : p < r.length) : lstep w (tight r) (tight (r.eraseIdx p)) = w (r.getD p 0) ∧ lstep w (tight (r.eraseIdx p)) (tight r) = w (r.getD p 0) := by
  have hc := row_getD hr hp
  obtain ⟨e1, e2⟩ := erase_split hp
  have h1 : Row (r.take p) := fun z hz => hr z (List.mem_of_mem_take hz)
  have h2 : Row (r.drop (p + 1)) := fun z hz => hr z (List.mem_of_mem_drop hz)
  unfold lstep
  rw [chg_tight hr (row_erase hr p), chg_tight (row_erase hr p) hr]
  have a1 : chg r (r.eraseIdx p) = some (und (r.getD p 0)) := by
    have := chg_del h1 h2 hc
    rwa [← e1, ← e2] at this
  have a2 : chg (r.eraseIdx p) r = some (r.getD p 0) := by
    have := chg_ins h1 h2 hc
    rwa [← e1, ← e2] at this
  rw [a1, a2]
  exact ⟨W.sym _ hc, rfl⟩
theorem erase_len {r : List Nat} {p : Nat} (h : p < r.length) : (r.eraseIdx p).length = r.length - 1 := by rw [List.length_eraseIdx, if_pos h]
theorem lc_wo (W : WOk w) : ∀ {ps r : List Nat}, Row r → ps.Pairwise (fun p q => q < p) → (∀ p ∈ ps, p < r.length) → lcR w ((wo r ps).map tight) = fsum (fun p => w (r.getD p 0)) ps
  | [], r, _, _, _ => rfl
  | p :: ps, r, hr, hd, hl => by
    have hp := hl p (by simp)
    obtain ⟨d1, d2⟩ := List.pairwise_cons.mp hd
    have ih := lc_wo W (ps := ps) (row_erase hr p) d2 fun q hq => by rw [erase_len hp]; have := d1 q hq; omega
    obtain ⟨t, et⟩ := wo_head (r.eraseIdx p) ps
    show lcR w (tight r :: (wo (r.eraseIdx p) ps).map tight) = oplus _ _
    rw [et] at ih ⊢
    show oplus (lstep w (tight r) (tight (r.eraseIdx p))) (lcR w ((r.eraseIdx p :: t).map tight)) = _
    rw [ih, (lstep_del W hr hp).1]
    congr 1
    exact fsum_congr fun q hq => by rw [getD_erase (d1 q hq)]
theorem lc_woR (W : WOk w) : ∀ {ps r : List Nat}, Row r → ps.Pairwise (fun p q => q < p) → (∀ p ∈ ps, p < r.length) → lcR w ((wo r ps).reverse.map tight) = fsum (fun p => w (r.getD p 0)) ps.reverse
  | [], r, _, _, _ => rfl
  | p :: ps, r, hr, hd, hl => by
    have hp := hl p (by simp)
    obtain ⟨d1, d2⟩ := List.pairwise_cons.mp hd
    have ih := lc_woR W (ps := ps) (row_erase hr p) d2 fun q hq => by rw [erase_len hp]; have := d1 q hq; omega
    obtain ⟨t, et⟩ := wo_head (r.eraseIdx p) ps
    show lcR w ((r :: wo (r.eraseIdx p) ps).reverse.map tight) = _
    rw [et] at ih ⊢
    rw [List.reverse_cons, List.reverse_cons, List.append_assoc, List.map_append] 
    rw [List.reverse_cons, List.map_append] at ih
    show lcR w (t.reverse.map tight ++ [tight (r.eraseIdx p), tight r]) = _
    rw [lcR_snoc]
    have ih : lcR w (t.reverse.map tight ++ [tight (r.eraseIdx p)]) = _ := ih
    rw [ih, (lstep_del W hr hp).2, List.reverse_cons, fsum_app]
    have e2 : fsum (fun p => w (r.getD p 0)) [p] = w (r.getD p 0) := oplus_zero _
    rw [e2]
    congr 1
    exact fsum_congr fun q hq => by rw [getD_erase (d1 q (List.mem_reverse.mp hq))]
end
/-! ### what is left of a row -/
def selR : List Nat → (Nat → Bool) → List Nat
  | [], _ => []
  | c :: r, f => if f 0 = true then c :: selR r (fun i => f (i + 1)) else selR r (fun i => f (i + 1))
theorem selR_app : ∀ (a b : List Nat) (f : Nat → Bool), selR (a ++ b) f = selR a f ++ selR b (fun i => f (a.length + i))
  | [], b, f => by
    show selR b f = [] ++ selR b (fun i => f (0 + i))
    rw [List.nil_append, show (fun i => f (0 + i)) = f from funext fun i => by rw [Nat.zero_add]]
  | c :: a, b, f => by
    have e : (fun i => f ((c :: a).length + i)) = fun i => f (a.length + i + 1) := funext fun i => by rw [List.length_cons]; congr 1; omega
    show (if f 0 = true then c :: selR (a ++ b) (fun i => f (i + 1)) else selR (a ++ b) (fun i => f (i + 1))) = (if f 0 = true then c :: selR a (fun i => f (i + 1)) else selR a (fun i => f (i + 1))) ++ _
    rw [selR_app a b, e]
    split <;> rfl
theorem selR_congr : ∀ {r : List Nat} {f g : Nat → Bool}, (∀ i, i < r.length → f i = g i) → selR r f = selR r g
  | [], _, _, _ => rfl
  | c :: r, f, g, h => by
    unfold selR
    rw [h 0 (by simp), selR_congr (r := r) fun i hi => h (i + 1) (by simp; omega)]
theorem selR_true : ∀ {r : List Nat} {f : Nat → Bool}, (∀ i, i < r.length → f i = true) → selR r f = r
  | [], _, _ => rfl
  | c :: r, f, h => by
    unfold selR
    rw [if_pos (h 0 (by simp)), selR_true (r := r) fun i hi => h (i + 1) (by simp; omega)]
theorem selR_back : ∀ (r : List Nat) (f : Nat → Bool), selR (back r) f = back (selR r (fun i => f (r.length - 1 - i)))
  | [], _ => rfl
  | c :: r, f => by
    have e : back (c :: r) = back r ++ [und c] := by simp [back]
    have e2 : (fun i => f ((c :: r).length - 1 - (i + 1))) = fun i => f (r.length - 1 - i) := funext fun i => by rw [List.length_cons]; congr 1; omega
    rw [e, selR_app, selR_back r f, back_len]
    show _ ++ (if f (r.length + 0) = true then [und c] else []) = back (if f ((c :: r).length - 1 - 0) = true then c :: selR r (fun i => f ((c :: r).length - 1 - (i + 1))) else selR r (fun i => f ((c :: r).length - 1 - (i + 1))))
    rw [e2, show (c :: r).length - 1 - 0 = r.length + 0 by simp]
    split
    · simp [back]
    · simp
theorem wo_last : ∀ (ps r : List Nat), ∃ l, wo r ps = l ++ [ps.foldl List.eraseIdx r]
  | [], r => ⟨[], rfl⟩
  | p :: ps, r => by
    obtain ⟨l, e⟩ := wo_last ps (r.eraseIdx p)
    exact ⟨r :: l, by show r :: wo _ _ = _; rw [e]; rfl⟩
theorem fin_sel : ∀ {ps r : List Nat}, ps.Pairwise (fun p q => q < p) → (∀ p ∈ ps, p < r.length) → ps.foldl List.eraseIdx r = selR r fun i => !ps.contains i
  | [], r, _, _ => (selR_true fun i _ => rfl).symm
  | p :: ps, r, hd, hl => by
    have hp := hl p (by simp)
    obtain ⟨d1, d2⟩ := List.pairwise_cons.mp hd
    obtain ⟨e1, e2⟩ := erase_split hp
    have tl : (r.take p).length = p := by rw [List.length_take]; omega
    show ps.foldl List.eraseIdx (r.eraseIdx p) = _
    rw [fin_sel d2 fun q hq => by rw [erase_len hp]; have := d1 q hq; omega]
    conv => rhs; rw [e1]
    rw [e2, selR_app, selR_app, tl]
    have g : ∀ i, p ≤ i → ps.contains i = false := fun i hi => by
      rw [Bool.eq_false_iff]
      intro z
      have := d1 i (List.contains_iff_mem.mp z)
      omega
    congr 1
    · refine selR_congr fun i hi => ?_
      rw [tl] at hi
      rw [List.contains_cons, show (i == p) = false by simp; omega, Bool.false_or]
    · rw [selR_true fun i _ => by rw [g _ (by omega)]; rfl]
      show _ = if (!(p :: ps).contains (p + 0)) = true then _ else _
      rw [if_neg (by simp), selR_true fun i _ => by show (!(p :: ps).contains (p + (i + 1))) = true; rw [List.contains_cons, g _ (by omega), show (p + (i + 1) == p) = false by simp]; rfl]
section
variable {w : Nat → Option Int}
/-- the turns of the pairs of a nesting leave nothing -/
theorem NestI.heldC {r : List Nat} (hr : Row r) {b l : Nat} {ps : List (Nat × Nat)} {n : Int} (h : NestI w r b l ps n) : Cst (fun _ => none) (selR (sub r b l) fun i => (places ps).contains (b + i)) 0 := by
  induction h with
  | nil => exact Cst.nil.to (by unfold sub; rw [List.take_zero]; rfl) rfl
  | @del b l c x n ps hc hx h1 ih =>
    refine ih.to ?_ rfl
    have hn : (places ps).contains (b + 0) = false := by
      rw [Bool.eq_false_iff]
      intro z
      obtain ⟨p, hp, hz⟩ := places_mem.mp (List.contains_iff_mem.mp z)
      have := h1.mem p hp
      omega
    rw [sub_cons hc]
    show _ = if (places ps).contains (b + 0) = true then _ else _
    rw [if_neg (by rw [hn]; decide)]
    exact selR_congr fun i _ => by congr 1; omega
  | @pair b i k c m n ps qs hc hd h1 h2 ih1 ih2 =>
    have hcT := hr c (List.mem_of_getElem? hc)
    refine (Cst.pair hcT ih1 ih2).to ?_ rfl
    have l1 : (sub r (b + 1) i).length = i := by
      unfold sub
      rw [List.length_take, List.length_drop]
      have := (List.getElem?_eq_some_iff.mp hd).1
      omega
    have es : sub r b (i + 2 + k) = c :: (sub r (b + 1) i ++ und c :: sub r (b + 1 + i + 1) k) := by
      rw [show i + 2 + k = (i + 1 + k) + 1 by omega, sub_cons hc]
      congr 1
      have := sub_split (r := r) (b := b + 1) (l := i + 1 + k) (o := i) (by omega) hd
      rw [this]
      congr 3
      omega
    have c1 : (places ((b, b + 1 + i) :: (ps ++ qs))).contains (b + 0) = true := List.contains_iff_mem.mpr (places_mem.mpr ⟨(b, b + 1 + i), List.mem_cons_self, .inl rfl⟩)
    have c2 : (places ((b, b + 1 + i) :: (ps ++ qs))).contains (b + (i + 0 + 1)) = true := List.contains_iff_mem.mpr (places_mem.mpr ⟨(b, b + 1 + i), List.mem_cons_self, .inr (by show b + (i + 0 + 1) = b + 1 + i; omega)⟩)
    rw [es]
    show _ = if (places ((b, b + 1 + i) :: (ps ++ qs))).contains (b + 0) = true then _ else _
    rw [if_pos c1, selR_app, l1]
    congr 2
    · refine selR_congr fun j hj => ?_
      rw [l1] at hj
      rw [Bool.eq_iff_iff, List.contains_iff_mem, List.contains_iff_mem, places_mem, places_mem]
      refine ⟨fun ⟨p, hp, hz⟩ => ⟨p, List.mem_cons_of_mem _ (List.mem_append_left _ hp), by omega⟩, fun ⟨p, hp, hz⟩ => ?_⟩
      rcases List.mem_cons.mp hp with rfl | hp
      · dsimp only at hz; omega
      · rcases List.mem_append.mp hp with hp | hp
        · exact ⟨p, hp, by omega⟩
        · have := h2.mem p hp; omega
    · show _ = if (places ((b, b + 1 + i) :: (ps ++ qs))).contains (b + (i + 0 + 1)) = true then _ else _
      rw [if_pos c2]
      congr 1
      refine selR_congr fun j hj => ?_
      rw [Bool.eq_iff_iff, List.contains_iff_mem, List.contains_iff_mem, places_mem, places_mem]
      refine ⟨fun ⟨p, hp, hz⟩ => ⟨p, List.mem_cons_of_mem _ (List.mem_append_right _ hp), by omega⟩, fun ⟨p, hp, hz⟩ => ?_⟩
      rcases List.mem_cons.mp hp with rfl | hp
      · dsimp only at hz; omega
      · rcases List.mem_append.mp hp with hp | hp
        · have := h1.mem p hp; omega
        · exact ⟨p, hp, by omega⟩
theorem w0_ok : WOk fun _ => none := ⟨fun c x h => (nomatch h), fun c _ => rfl⟩
theorem tight_eq_of {a b : List Nat} (ha : Row a) (hb : Row b) (h : tight (back a ++ b) = []) : tight a = tight b := by
  have h1 : tight (a ++ (back a ++ b)) = tight a := by
    rw [← tight_right ha (row_app2 (back_row ha) hb), h, List.append_nil]
  have h2 : tight ([] ++ ((a ++ back a) ++ b)) = tight ([] ++ b) := tight_mid row_nil (row_app2 ha (back_row ha)) hb (tight_self_back ha)
  rw [← h1]
  have e : a ++ (back a ++ b) = [] ++ ((a ++ back a) ++ b) := by simp
  rw [e, h2]
  rfl
/-- the free places of a row, and what they cost -/
def freeL (ps : List (Nat × Nat)) (l : Nat) : List Nat := (List.range l).filter fun i => !(places ps).contains i
theorem freeC_sum (r : List Nat) (ps : List (Nat × Nat)) : ∀ l, freeC w r (places ps) 0 l = fsum (fun i => w (r.getD i 0)) (freeL ps l)
  | 0 => rfl
  | l + 1 => by
    unfold freeL
    rw [freeC_succ, freeC_sum r ps l, List.range_succ, List.filter_append, fsum_app, Nat.zero_add]
    cases h : (places ps).contains l with
    | true =>
      rw [if_pos rfl, List.filter_cons_of_neg (by rw [h]; decide)]
      exact (oplus_zero _).symm
    | false =>
      rw [if_neg (by decide), List.filter_cons_of_pos (by rw [h]; rfl)]
      show _ = oplus _ (oplus _ (some 0))
      rw [oplus_zero]
      rfl
end

/-! ### mathematics: the told list -/
def takenL (free : List Nat) (m : Nat) : List Nat := (free.filter fun p => decide (p < m)).map fun p => m - 1 - p
def putL (free : List Nat) (m : Nat) : List Nat := (free.filter fun p => decide (m ≤ p)).map fun p => p - m
def toldL (row other free : List Nat) : List (List Nat) := (wo row (takenL free row.length) ++ ((wo other (putL free row.length).reverse).reverse).tail).map tight
theorem filt_split {m : Nat} : ∀ {l : List Nat}, l.Pairwise (· < ·) → (l.filter fun p => decide (p < m)) ++ (l.filter fun p => decide (m ≤ p)) = l
  | [], _ => rfl
  | x :: l, h => by
    obtain ⟨h1, h2⟩ := List.pairwise_cons.mp h
    by_cases hx : x < m
    · rw [List.filter_cons_of_pos (by simpa using hx), List.filter_cons_of_neg (by simp; omega), List.cons_append, filt_split h2]
    · rw [List.filter_cons_of_neg (by simpa using hx), List.filter_cons_of_pos (by simp; omega)]
      have e1 : (l.filter fun p => decide (p < m)) = [] := List.filter_eq_nil_iff.mpr fun p hp => by have := h1 p hp; simp; omega
      have e2 : (l.filter fun p => decide (m ≤ p)) = l := List.filter_eq_self.mpr fun p hp => by have := h1 p hp; simp; omega
      rw [e1, e2]
      rfl
theorem freeL_asc (ps : List (Nat × Nat)) (l : Nat) : (freeL ps l).Pairwise (· < ·) := List.Pairwise.filter _ List.pairwise_lt_range
theorem freeL_mem {ps : List (Nat × Nat)} {l p : Nat} : p ∈ freeL ps l ↔ p < l ∧ (places ps).contains p = false := by
  unfold freeL
  rw [List.mem_filter, List.mem_range]
  simp
theorem takenL_desc {free : List Nat} (h : free.Pairwise (· < ·)) (m : Nat) : (takenL free m).Pairwise (fun p q => q < p) := by
  unfold takenL
  rw [List.pairwise_map]
  refine List.Pairwise.imp_of_mem ?_ (List.Pairwise.filter _ h)
  intro a b ha hb hab
  have h1 := of_decide_eq_true (List.mem_filter.mp ha).2
  have h2 := of_decide_eq_true (List.mem_filter.mp hb).2
  omega
theorem putL_asc {free : List Nat} (h : free.Pairwise (· < ·)) (m : Nat) : (putL free m).Pairwise (· < ·) := by
  unfold putL
  rw [List.pairwise_map]
  refine List.Pairwise.imp_of_mem ?_ (List.Pairwise.filter _ h)
  intro a b ha hb hab
  have h1 := of_decide_eq_true (List.mem_filter.mp ha).2
  omega
theorem taken_mem {ps : List (Nat × Nat)} {m k i : Nat} : i ∈ takenL (freeL ps (m + k)) m ↔ i < m ∧ (places ps).contains (m - 1 - i) = false := by
  unfold takenL
  rw [List.mem_map]
  constructor
  · rintro ⟨p, hp, rfl⟩
    obtain ⟨h1, h2⟩ := List.mem_filter.mp hp
    have h2 := of_decide_eq_true h2
    refine ⟨by omega, ?_⟩
    rw [show m - 1 - (m - 1 - p) = p by omega]
    exact (freeL_mem.mp h1).2
  · rintro ⟨h1, h2⟩
    exact ⟨m - 1 - i, List.mem_filter.mpr ⟨freeL_mem.mpr ⟨by omega, h2⟩, decide_eq_true (by omega)⟩, by omega⟩
theorem put_mem {ps : List (Nat × Nat)} {m k i : Nat} : i ∈ putL (freeL ps (m + k)) m ↔ i < k ∧ (places ps).contains (m + i) = false := by
  unfold putL
  rw [List.mem_map]
  constructor
  · rintro ⟨p, hp, rfl⟩
    obtain ⟨h1, h2⟩ := List.mem_filter.mp hp
    have h2 := of_decide_eq_true h2
    obtain ⟨h3, h4⟩ := freeL_mem.mp h1
    refine ⟨by omega, ?_⟩
    rw [show m + (p - m) = p by omega]
    exact h4
  · rintro ⟨h1, h2⟩
    exact ⟨m + i, List.mem_filter.mpr ⟨freeL_mem.mpr ⟨by omega, h2⟩, decide_eq_true (by omega)⟩, by omega⟩
theorem back_getD {r : List Nat} {p : Nat} (h : p < r.length) : (back r).getD p 0 = und (r.getD (r.length - 1 - p) 0) := by
  unfold back
  rw [List.getD_eq_getElem?_getD, List.getElem?_reverse (by rw [List.length_map]; exact h), List.length_map, List.getElem?_map, List.getD_eq_getElem?_getD, List.getElem?_eq_getElem (show r.length - 1 - p < r.length by omega)]
  rfl
theorem wo_mem : ∀ {ps r s : List Nat}, s ∈ wo r ps → (∀ c ∈ s, c ∈ r) ∧ s.length ≤ r.length
  | [], r, s, h => by
    rw [List.mem_singleton.mp h]
    exact ⟨fun c h => h, Nat.le_refl _⟩
  | p :: ps, r, s, h => by
    rcases List.mem_cons.mp h with rfl | h
    · exact ⟨fun c h => h, Nat.le_refl _⟩
    · obtain ⟨h1, h2⟩ := wo_mem h
      have := List.length_eraseIdx_le r p
      exact ⟨fun c hc => List.mem_of_mem_eraseIdx (h1 c hc), by omega⟩
theorem wo_len : ∀ (ps r : List Nat), (wo r ps).length = ps.length + 1
  | [], _ => rfl
  | p :: ps, r => by
    show (wo _ ps).length + 1 = _
    rw [wo_len ps]
    rfl
theorem sub_whole (r : List Nat) : sub r 0 r.length = r := by unfold sub; rw [List.drop_zero, List.take_length]
structure Told (w : Nat → Option Int) (row other : List Nat) (ts : List (List Nat)) (n : Int) : Prop where
  head : ts.head? = some (tight row)
  last : ts.getLast? = some (tight other)
  cost : lcR w ts = some n
  tig : ∀ t ∈ ts, tight t = t
  mem : ∀ t ∈ ts, (∀ c ∈ t, c ∈ row ∨ c ∈ other) ∧ t.length ≤ row.length + other.length
  few : ts.length ≤ 1 + row.length + other.length
  src : ∃ ps, NestI w (back row ++ other) 0 (back row ++ other).length ps n ∧ ts = toldL row other (freeL ps (row.length + other.length))
section
variable {w : Nat → Option Int}
theorem told_ok (W : WOk w) {row other : List Nat} (hr : Row row) (ho : Row other) {ps : List (Nat × Nat)} {n : Int} (h : NestI w (back row ++ other) 0 (back row ++ other).length ps n) :
    Told w row other (toldL row other (freeL ps (row.length + other.length))) n := by
  have hW : Row (back row ++ other) := row_app2 (back_row hr) ho
  have hlen : (back row ++ other).length = row.length + other.length := by rw [List.length_append, back_len]
  have hfa := freeL_asc ps (row.length + other.length)
  have hsum : fsum (fun i => w ((back row ++ other).getD i 0)) (freeL ps (row.length + other.length)) = some n := by
    rw [← hlen, ← freeC_sum]
    exact h.free
  have hheld := h.heldC hW
  rw [sub_whole, selR_app, selR_back, back_len] at hheld
  obtain ⟨free, hfree⟩ : ∃ free, free = freeL ps (row.length + other.length) := ⟨_, rfl⟩
  have td := takenL_desc hfa row.length
  have pa := putL_asc hfa row.length
  have tb : ∀ p ∈ takenL (freeL ps (row.length + other.length)) row.length, p < row.length := fun p hp => (taken_mem.mp hp).1
  have pb : ∀ p ∈ putL (freeL ps (row.length + other.length)) row.length, p < other.length := fun p hp => (put_mem.mp hp).1
  have pd : (putL (freeL ps (row.length + other.length)) row.length).reverse.Pairwise (fun p q => q < p) := List.pairwise_reverse.mpr pa
  have pbr : ∀ p ∈ (putL (freeL ps (row.length + other.length)) row.length).reverse, p < other.length := fun p hp => pb p (List.mem_reverse.mp hp)
  have f1 : (takenL (freeL ps (row.length + other.length)) row.length).foldl List.eraseIdx row = selR row fun i => (places ps).contains (0 + (row.length - 1 - i)) := by
    rw [fin_sel td tb]
    refine selR_congr fun i hi => ?_
    rw [Nat.zero_add]
    cases e : (places ps).contains (row.length - 1 - i) with
    | true =>
      have : i ∉ takenL (freeL ps (row.length + other.length)) row.length := fun z => by have := (taken_mem.mp z).2; rw [e] at this; cases this
      simpa using this
    | false =>
      have : i ∈ takenL (freeL ps (row.length + other.length)) row.length := taken_mem.mpr ⟨hi, e⟩
      simpa using this
  have f2 : (putL (freeL ps (row.length + other.length)) row.length).reverse.foldl List.eraseIdx other = selR other fun i => (places ps).contains (0 + (row.length + i)) := by
    rw [fin_sel pd pbr]
    refine selR_congr fun i hi => ?_
    rw [Nat.zero_add]
    cases e : (places ps).contains (row.length + i) with
    | true =>
      have : i ∉ putL (freeL ps (row.length + other.length)) row.length := fun z => by have := (put_mem.mp z).2; rw [e] at this; cases this
      simpa using this
    | false =>
      have : i ∈ putL (freeL ps (row.length + other.length)) row.length := put_mem.mpr ⟨hi, e⟩
      simpa using this
  rw [← f1, ← f2] at hheld
  have hT := Cst.zero w0_ok hheld (Int.le_refl _)
  have r1 : Row ((takenL (freeL ps (row.length + other.length)) row.length).foldl List.eraseIdx row) := by
    obtain ⟨l, e⟩ := wo_last (takenL (freeL ps (row.length + other.length)) row.length) row
    exact fun c hc => hr c ((wo_mem (ps := takenL (freeL ps (row.length + other.length)) row.length) (by rw [e]; simp)).1 c hc)
  have r2 : Row ((putL (freeL ps (row.length + other.length)) row.length).reverse.foldl List.eraseIdx other) := by
    obtain ⟨l, e⟩ := wo_last (putL (freeL ps (row.length + other.length)) row.length).reverse other
    exact fun c hc => ho c ((wo_mem (ps := (putL (freeL ps (row.length + other.length)) row.length).reverse) (by rw [e]; simp)).1 c hc)
  have hz := tight_eq_of r1 r2 hT
  obtain ⟨la, ea⟩ := wo_last (takenL (freeL ps (row.length + other.length)) row.length) row
  obtain ⟨lb, eb⟩ := wo_last (putL (freeL ps (row.length + other.length)) row.length).reverse other
  have c1 := lc_wo W hr td tb
  have c2 := lc_woR W ho pd pbr
  obtain ⟨ha, ea2⟩ := wo_head row (takenL (freeL ps (row.length + other.length)) row.length)
  obtain ⟨hb, eb2⟩ := wo_head other (putL (freeL ps (row.length + other.length)) row.length).reverse
  generalize hF1 : (takenL (freeL ps (row.length + other.length)) row.length).foldl List.eraseIdx row = F1 at *
  generalize hF2 : (putL (freeL ps (row.length + other.length)) row.length).reverse.foldl List.eraseIdx other = F2 at *
  have eB : (wo other (putL (freeL ps (row.length + other.length)) row.length).reverse).reverse = F2 :: lb.reverse := by rw [eb, List.reverse_append]; rfl
  have eT : toldL row other (freeL ps (row.length + other.length)) = la.map tight ++ tight F1 :: lb.reverse.map tight := by
    unfold toldL
    rw [eB, ea]
    simp
  have eA : (wo row (takenL (freeL ps (row.length + other.length)) row.length)).map tight = la.map tight ++ [tight F1] := by rw [ea]; simp
  rw [eB] at c2
  rw [eA] at c1
  have c2 : lcR w (tight F2 :: lb.reverse.map tight) = _ := c2
  refine ⟨?_, ?_, ?_, ?_, ?_, ?_, ps, h, rfl⟩
  · rw [eT, show la.map tight ++ tight F1 :: lb.reverse.map tight = (la.map tight ++ [tight F1]) ++ lb.reverse.map tight by simp, ← eA, ea2]
    rfl
  · rw [eT, hz, List.getLast?_append]
    have e3 : tight F2 :: lb.reverse.map tight = (hb.reverse ++ [other]).map tight := by
      have : (F2 :: lb.reverse) = hb.reverse ++ [other] := by rw [← eB, eb2, List.reverse_cons]
      rw [← this]
      rfl
    rw [e3, List.map_append, List.getLast?_append]
    rfl
  · rw [eT, lcR_join, c1, hz, c2, List.reverse_reverse]
    rw [← filt_split (m := row.length) hfa, fsum_app] at hsum
    rw [← hsum]
    congr 1
    · unfold takenL
      rw [fsum_map]
      refine fsum_congr fun p hp => ?_
      have hp := of_decide_eq_true (List.mem_filter.mp hp).2
      rw [show (back row ++ other).getD p 0 = (back row).getD p 0 by rw [List.getD_eq_getElem?_getD, List.getD_eq_getElem?_getD, List.getElem?_append_left (by rw [back_len]; exact hp)], back_getD hp, W.sym _ (row_getD hr (by omega))]
    · unfold putL
      rw [fsum_map]
      refine fsum_congr fun p hp => ?_
      have hp := of_decide_eq_true (List.mem_filter.mp hp).2
      rw [show (back row ++ other).getD p 0 = other.getD (p - row.length) 0 by rw [List.getD_eq_getElem?_getD, List.getD_eq_getElem?_getD, List.getElem?_append_right (by rw [back_len]; exact hp), back_len]]
  · intro t ht
    obtain ⟨s, _, rfl⟩ := List.mem_map.mp ht
    exact tight_tight s
  · intro t ht
    obtain ⟨s, hs, rfl⟩ := List.mem_map.mp ht
    have hs : (∀ c ∈ s, c ∈ row ∨ c ∈ other) ∧ s.length ≤ row.length + other.length := by
      rcases List.mem_append.mp hs with hs | hs
      · obtain ⟨h1, h2⟩ := wo_mem hs
        exact ⟨fun c hc => .inl (h1 c hc), by omega⟩
      · obtain ⟨h1, h2⟩ := wo_mem (List.mem_reverse.mp (List.mem_of_mem_tail hs))
        exact ⟨fun c hc => .inr (h1 c hc), by omega⟩
    have := tight_len s
    exact ⟨fun c hc => hs.1 c (tight_sub s c hc), by omega⟩
  · unfold toldL
    rw [List.length_map, List.length_append, List.length_tail, List.length_reverse, wo_len, wo_len, List.length_reverse]
    have h1 : (takenL (freeL ps (row.length + other.length)) row.length).length + (putL (freeL ps (row.length + other.length)) row.length).length = (freeL ps (row.length + other.length)).length := by
      unfold takenL putL
      rw [List.length_map, List.length_map, ← List.length_append, filt_split hfa]
    have h2 : (freeL ps (row.length + other.length)).length ≤ row.length + other.length := by
      unfold freeL
      refine Nat.le_trans (List.length_filter_le _ _) ?_
      rw [List.length_range]
      exact Nat.le_refl _
    omega
end
/-! ### wound numbers -/
def vl (l c : Nat) : Int := if c = l then 1 else if c + 32 = l then -1 else 0
def wd (l : Nat) : List Nat → Int
  | [] => 0
  | c :: r => vl l c + wd l r
theorem wd_app (l : Nat) : ∀ a b : List Nat, wd l (a ++ b) = wd l a + wd l b
  | [], b => by show wd l b = 0 + wd l b; omega
  | c :: a, b => by
    show vl l c + wd l (a ++ b) = vl l c + wd l a + wd l b
    rw [wd_app l a b]
    omega
theorem wd_one (l c : Nat) : wd l [c] = vl l c := Int.add_zero _
theorem vl_und {l c : Nat} (hl : 97 ≤ l ∧ l ≤ 122) (hc : IsT c) : vl l (und c) = - vl l c := by
  unfold IsT at hc
  unfold vl und
  repeat' split
  all_goals omega
theorem wd_back {l : Nat} (hl : 97 ≤ l ∧ l ≤ 122) : ∀ {r : List Nat}, Row r → wd l (back r) = - wd l r
  | [], _ => rfl
  | c :: r, h => by
    have e : back (c :: r) = back r ++ [und c] := by simp [back]
    rw [e, wd_app, wd_one, vl_und hl (h c (by simp)), wd_back hl fun z hz => h z (List.mem_cons_of_mem _ hz)]
    show _ = - (vl l c + wd l r)
    omega
theorem wd_rev (l : Nat) : ∀ r : List Nat, wd l r.reverse = wd l r
  | [] => rfl
  | c :: r => by
    rw [List.reverse_cons, wd_app, wd_one, wd_rev l r]
    show _ = vl l c + wd l r
    omega
theorem wd_step {l : Nat} (hl : 97 ≤ l ∧ l ≤ 122) {st : List Nat} {c : Nat} (hc : IsT c) : wd l (stepT st c) = wd l st + vl l c := by
  cases st with
  | nil =>
    show vl l c + 0 = 0 + vl l c
    omega
  | cons t r =>
    show wd l (if t = und c then r else c :: t :: r) = vl l t + wd l r + vl l c
    by_cases e : t = und c
    · rw [if_pos e, e, vl_und hl hc]
      omega
    · rw [if_neg e]
      show vl l c + (vl l t + wd l r) = _
      omega
theorem wd_fold {l : Nat} (hl : 97 ≤ l ∧ l ≤ 122) : ∀ {r st : List Nat}, Row r → wd l (r.foldl stepT st) = wd l st + wd l r
  | [], st, _ => by show wd l st = wd l st + 0; omega
  | c :: r, st, h => by
    show wd l (r.foldl stepT (stepT st c)) = wd l st + (vl l c + wd l r)
    rw [wd_fold hl fun z hz => h z (List.mem_cons_of_mem _ hz), wd_step hl (h c (by simp))]
    omega
theorem wd_tight {l : Nat} (hl : 97 ≤ l ∧ l ≤ 122) {r : List Nat} (h : Row r) : wd l (tight r) = wd l r := by
  unfold tight tightR
  rw [wd_rev, wd_fold hl h]
  show 0 + wd l r = _
  omega
theorem wd_cyc {l : Nat} (hl : 97 ≤ l ∧ l ≤ 122) : ∀ {n : Nat} {s : List Nat}, Row s → wd l (cycN n s) = wd l s
  | 0, _, _ => rfl
  | n + 1, s, hr => by
    unfold cycN
    split
    · rename_i hc
      obtain ⟨h1, h2⟩ := hc
      obtain ⟨a, t, rfl⟩ : ∃ a t, s = a :: t := by
        cases s with
        | nil => simp at h1
        | cons a t => exact ⟨a, t, rfl⟩
      have ht : t ≠ [] := fun e => by subst e; simp at h1
      obtain ⟨m, y, rfl⟩ : ∃ m y, t = m ++ [y] := ⟨t.dropLast, t.getLast ht, (List.dropLast_concat_getLast ht).symm⟩
      have e1 : (a :: (m ++ [y])).drop 1 = m ++ [y] := rfl
      rw [e1, List.dropLast_concat]
      have e2 : (a :: (m ++ [y])).length - 1 = m.length + 1 := by simp
      rw [e2, List.getD_cons_zero, List.getD_cons_succ, List.getD_eq_getElem?_getD, List.getElem?_append_right (Nat.le_refl _), Nat.sub_self] at h2
      have h2 : a = und y := h2
      have hy : IsT y := hr y (by simp)
      rw [wd_cyc hl fun z hz => hr z (List.mem_cons_of_mem _ (List.mem_append_left _ hz))]
      show _ = vl l a + wd l (m ++ [y])
      rw [wd_app, wd_one, h2, vl_und hl hy]
      omega
    · rfl
theorem wd_chg {l : Nat} (hl : 97 ≤ l ∧ l ≤ 122) {a b : List Nat} (ha : Row a) (hb : Row b) {c : Nat} (h : chg a b = some c) : wd l b - wd l a = vl l c := by
  have e := chg_some h
  have hr : Row (back a ++ b) := row_app2 (back_row ha) hb
  have e2 : wd l (cyc (tight (back a ++ b))) = wd l (tight (back a ++ b)) := wd_cyc hl (tight_row hr)
  rw [e, wd_one, wd_tight hl hr, wd_app, wd_back hl ha] at e2
  omega
theorem count_wd {l : Nat} (hl : 97 ≤ l) : ∀ r : List Nat, ((r.count l : Nat) : Int) - ((r.count (l - 32) : Nat) : Int) = wd l r
  | [] => rfl
  | c :: r => by
    have ih := count_wd hl r
    rw [List.count_cons, List.count_cons]
    show _ = vl l c + wd l r
    unfold vl
    rw [← ih]
    by_cases h1 : c = l
    · rw [if_pos (by simpa using h1), if_neg (by simp; omega), if_pos h1]
      omega
    · rw [if_neg (by simpa using h1), if_neg h1]
      by_cases h2 : c + 32 = l
      · rw [if_pos (by simp; omega), if_pos h2]
        omega
      · rw [if_neg (by simp; omega), if_neg h2]
        omega
/-- how far two rows' wound numbers lie apart, post by post -/
def apartL (fl : Floor) (a b : List Nat) : List Int := fl.map fun p => ((wd p.1 a - wd p.1 b).natAbs : Int)
theorem rep_of {α : Type} {l : List (Nat × Option Int)} {f : Nat × Option Int → Int} (h : ∀ p ∈ l, f p = 0) : l.map f = List.replicate l.length 0 := by
  rw [List.eq_replicate_iff]
  refine ⟨List.length_map _, fun z hz => ?_⟩
  obtain ⟨p, hp, rfl⟩ := List.mem_map.mp hz
  exact h p hp
theorem apart_perm {fl : Floor} (hf : FloorOk fl) {a b : List Nat} (ha : Row a) (hb : Row b) {c : Nat} (h : chg a b = some c) (hc : c ∈ turnsF fl) : (List.replicate (fl.length - 1) (0 : Int) ++ [1]).Perm (apartL fl a b) := by
  have hv : ∀ p ∈ fl, ((wd p.1 a - wd p.1 b).natAbs : Int) = ((vl p.1 c).natAbs : Int) := fun p hp => by
    have hb2 := hf.ok p hp
    have := wd_chg ⟨hb2.1, hb2.2.1⟩ ha hb h
    omega
  obtain ⟨q, hq, eq⟩ : ∃ q ∈ fl, c = q.1 ∨ c + 32 = q.1 := by
    unfold turnsF lets at hc
    rcases List.mem_append.mp hc with hc | hc
    · obtain ⟨p, hp, rfl⟩ := List.mem_map.mp hc
      exact ⟨p, hp, .inl rfl⟩
    · obtain ⟨z, hz, rfl⟩ := List.mem_map.mp hc
      obtain ⟨p, hp, rfl⟩ := List.mem_map.mp hz
      have := (hf.ok p hp).1
      exact ⟨p, hp, .inr (by omega)⟩
  obtain ⟨A, B, rfl⟩ := List.append_of_mem hq
  have hasc := hf.asc
  rw [List.map_append, List.map_cons, List.pairwise_append] at hasc
  obtain ⟨_, h2, h3⟩ := hasc
  have h2 := (List.pairwise_cons.mp h2).1
  obtain ⟨q1, q2, _⟩ := hf.ok q hq
  have z0 : ∀ p : Nat × Option Int, 97 ≤ p.1 ∧ p.1 ≤ 122 → p.1 ≠ q.1 → ((vl p.1 c).natAbs : Int) = 0 := fun p hp hne => by
    unfold vl
    rw [if_neg (by omega), if_neg (by omega)]
    rfl
  have zq : ((vl q.1 c).natAbs : Int) = 1 := by
    unfold vl
    rcases eq with e | e
    · rw [if_pos e]; rfl
    · rw [if_neg (by omega), if_pos e]; rfl
  have eA : A.map (fun p => ((wd p.1 a - wd p.1 b).natAbs : Int)) = List.replicate A.length 0 := rep_of (α := Nat) fun p hp => by
    have := h3 p.1 (List.mem_map.mpr ⟨p, hp, rfl⟩) q.1 List.mem_cons_self
    rw [hv p (List.mem_append_left _ hp)]
    exact z0 p ⟨(hf.ok p (List.mem_append_left _ hp)).1, (hf.ok p (List.mem_append_left _ hp)).2.1⟩ (by omega)
  have eB : B.map (fun p => ((wd p.1 a - wd p.1 b).natAbs : Int)) = List.replicate B.length 0 := rep_of (α := Nat) fun p hp => by
    have := h2 p.1 (List.mem_map.mpr ⟨p, hp, rfl⟩)
    have hm : p ∈ A ++ q :: B := List.mem_append_right _ (List.mem_cons_of_mem _ hp)
    rw [hv p hm]
    exact z0 p ⟨(hf.ok p hm).1, (hf.ok p hm).2.1⟩ (by omega)
  unfold apartL
  rw [List.map_append, List.map_cons, eA, eB, hv q hq, zq]
  have e1 : (A ++ q :: B).length - 1 = A.length + B.length := by rw [List.length_append, List.length_cons]; omega
  rw [e1, ← List.replicate_append_replicate]
  refine (List.perm_append_comm).trans ?_
  exact (List.perm_middle (a := (1 : Int)) (l₁ := List.replicate A.length 0) (l₂ := List.replicate B.length 0)).symm

/-! ### between, liftings by chance -/
theorem RowOf.back {fl : Floor} (h : FloorOk fl) {r : List Nat} (hr : RowOf fl r) : RowOf fl (My.back r) := fun c hc => by
  unfold My.back at hc
  rw [List.mem_reverse] at hc
  obtain ⟨d, hd, rfl⟩ := List.mem_map.mp hc
  exact turnsF_und h (hr d hd)
def BetwPre (p : Floor × List Nat × List Nat) : Prop := FloorOk p.1 ∧ RowOf p.1 p.2.1 ∧ RowOf p.1 p.2.2 ∧ p.2.1.length + p.2.2.length ≤ 300
def BetwPost (p : Floor × List Nat × List Nat) (d : Da) : Prop := d = encO (L (wF p.1) (back p.2.1 ++ p.2.2))
def BetwA (p : Floor × List Nat × List Nat) : List Da := [encF p.1, .str (tx p.2.1), .str (tx p.2.2)]
abbrev BetwC (M : Md) (k : Nat) : Prop := Cal M k "between" [true, true, true] BetwA BetwPre BetwPost
abbrev BetwK (M : Md) (k : Nat) : Prop := CalR3 M k "between" ["other", "row", "floor"] BetwA BetwPre BetwPost
noncomputable def priced (fl : Floor) : List Nat := (turnsF fl).filter fun c => (wF fl c).isSome
abbrev PricedC (M : Md) (k : Nat) : Prop := Cal M k "_law_priced" [true] (fun fl : Floor => [encF fl]) FloorOk (fun fl d => d = .lst ((priced fl).map sg))
def LiftPre (p : Floor × List Nat) : Prop := FloorOk p.1 ∧ RowOf p.1 p.2 ∧ p.2.length ≤ 300
/-- a lifting: a row, what it costs; so much more or less at most for what stands behind any row -/
def LiftPost (p : Floor × List Nat) (d : Da) : Prop := ∃ (s : List Nat) (n : Int), d = .tup [.str (tx s), .int n] ∧ RowOf p.1 s ∧ s.length ≤ p.2.length + 1 ∧ 0 ≤ n ∧ (∀ q m, Cst (wF p.1) (q ++ p.2) m → ∃ k, k ≤ m + n ∧ Cst (wF p.1) (q ++ s) k) ∧ ∀ q m, Cst (wF p.1) (q ++ s) m → ∃ k, k ≤ m + n ∧ Cst (wF p.1) (q ++ p.2) k
abbrev LiftC (M : Md) (k : Nat) : Prop := Cal M k "_law_lifted" [true, true, true] (fun p : Floor × List Nat => [.drw, encF p.1, .str (tx p.2)]) LiftPre LiftPost
theorem encO_some {fl : Floor} {c : Nat} (h : (wF fl c).isSome = true) : ∃ n, wF fl c = some n := Option.isSome_iff_exists.mp h
section
variable {M : Md} {k : Nat}
theorem ok_between {f : Addr} {fd : FuncData} (F : Fun M.K "between" "between" s_between f fd) (cB : BackC M k) (cL : LeastC M k) :
    FnOk M.P M.w M.K M.mg M.base CX0 (k + 1) f fd ["floor", "row", "other"] (SpD M.K [true, true, true] BetwA BetwPre BetwPost) := by
  refine fn_ok F S_between rfl fun X S ⟨fl, r, s⟩ ⟨hf, hr, hs, hl⟩ => ?_
  dsimp only at hf hr hs hl
  show DB X _ [some (.d (encF fl)), some (.d (.str (tx r))), some (.d (.str (tx s)))] _ _ _ _
  have hbl := back_len r
  walk_at "go"
  refine ⟨r, rfl, ⟨hr.row hf, by omega⟩, ?_⟩
  rintro _ rfl
  walk_at "go"
  rotate_left
  · rw [len_tx, len_tx]; exact sl1 (by omega)
  rw [app_tx]
  refine ⟨(fl, back r ++ s), rfl, ⟨hf, (hr.back hf).app hs, by show (back r ++ s).length ≤ 300; rw [List.length_append]; omega⟩, ?_⟩
  rintro _ rfl
  rfl
theorem priced_test {fl : Floor} {c : Nat} : (!decide (odV (wF fl c) = V.non)) = (wF fl c).isSome := by cases wF fl c <;> rfl
theorem ok_priced {f : Addr} {fd : FuncData} (F : Fun M.K "_law_priced" "_law_priced" s_lpriced f fd) (cC : LCostsC M k) (cT : TurnsC M k) :
    FnOk M.P M.w M.K M.mg M.base CX0 (k + 1) f fd ["_law_floor_here"] (SpD M.K [true] (fun fl : Floor => [encF fl]) FloorOk (fun fl d => d = .lst ((priced fl).map sg))) := by
  refine fn_ok F S_lpriced rfl fun X S fl hf => ?_
  show DB X _ [some (.d (encF fl)), none, none] _ _ _ _
  have htl := turnsF_len fl
  have hfl := hf.len
  walk_at "go"
  refine ⟨fl, rfl, hf, ?_⟩
  rintro _ ⟨kc, rfl, hkc⟩
  refine ⟨_, by walk_at "ss", ?_⟩
  walk_at "go"
  refine de_lc1 S (di_str ?_) (by walk_at "dk")
  walk_at "go"
  refine ⟨fl, rfl, hf, ?_⟩
  rintro _ rfl
  refine ⟨_, rfl, ?_⟩
  rw [chars_tx]
  refine lc_filter (p := fun c => (wF fl c).isSome) (f := sg) (by walk_at "wp") (by omega) (fun X1 S1 c hc => ?_) rfl
  refine dg_name S1 (by walk_at "dk") ⟨_, by walk_at "ss", fun X2 S2 => ?_⟩
  walk_at "go"
  refine .dk (q := kC c) rfl (hkc.at_ c hc) ?_
  walk_at "go"
  refine .notN ⟨priced_test, fun _ X3 S3 => ?_⟩
  walk_at "go"
  rfl
end

/-! ### the told list, walked -/
theorem asc_few {n : Nat} : ∀ {ps : List (Nat × Nat)} {lo : Nat}, (ps.Pairwise fun p q => p.1 < q.1) → lo ≤ n → (∀ p ∈ ps, lo ≤ p.1 ∧ p.1 < n) → ps.length ≤ n - lo := by
  intro ps
  induction ps with
  | nil => intro lo _ _ _; simp
  | cons p ps ih =>
    intro lo h hl hp
    obtain ⟨h1, h2⟩ := List.pairwise_cons.mp h
    have hpp := hp p List.mem_cons_self
    have := ih (lo := p.1 + 1) h2 (by omega) fun q hq => ⟨h1 q hq, (hp q (List.mem_cons_of_mem _ hq)).2⟩
    rw [List.length_cons]
    omega
theorem NestI.few {w : Nat → Option Int} {r : List Nat} {ps : List (Nat × Nat)} {n : Int} (h : NestI w r 0 r.length ps n) : ps.length ≤ r.length :=
  asc_few (lo := 0) h.asc (Nat.zero_le _) fun p hp => by
    have := h.mem p hp
    omega
theorem putsE_iff {κ : Type} [DecidableEq κ] (E : List (κ × V)) (q : κ) : (valV (putsE E) q).isSome = true ↔ q ∈ E.map (·.1) := by
  rw [putsE_has]
  exact decide_eq_true_iff
def tL (ts : List (List Nat)) : List Da := ts.map fun t => Da.str (tx t)
theorem wo_snoc : ∀ (ps : List Nat) (r : List Nat) (p : Nat), wo r (ps ++ [p]) = wo r ps ++ [(ps.foldl List.eraseIdx r).eraseIdx p]
  | [], r, p => rfl
  | q :: ps, r, p => by
    show r :: wo (r.eraseIdx q) (ps ++ [p]) = r :: wo (r.eraseIdx q) ps ++ _
    rw [wo_snoc ps]
    rfl
theorem cut_inner {r : List Nat} (h : 2 ≤ r.length) : cutS (tx r) (some 1) (some (-1)) = tx ((r.drop 1).dropLast) := by
  unfold cutS
  have e0 : HT.sIx (tx r).length 0 (some 1) = 1 := by
    rw [show (1 : Int) = ((1 : Nat) : Int) from rfl, HT.sIx_nat, len_tx]
    omega
  have e1 : HT.sIx (tx r).length (tx r).length (some (-1)) = r.length - 1 := by
    rw [len_tx]
    unfold HT.sIx
    dsimp only
    rw [if_pos (by decide)]
    omega
  rw [e0, e1]
  show (⟨((r.drop 1).take (r.length - 1 - 1)).toArray⟩ : Str) = ⟨((r.drop 1).dropLast).toArray⟩
  rw [List.dropLast_eq_take, List.length_drop]
theorem at_end {r : List Nat} {d : Nat} (h : r[r.length - 1]? = some d) : atI r (-1) = some d := by
  have hne : r ≠ [] := fun e => by subst e; cases h
  have e := List.dropLast_concat_getLast hne
  have e2 : r.getLast hne = d := by
    rw [List.getLast_eq_getElem]
    rw [List.getElem?_eq_getElem (by have := List.length_pos_iff.mpr hne; omega)] at h
    exact Option.some.inj h
  rw [e2] at e
  rw [← e]
  exact atI_last _ _
abbrev WithC (M : Md) (k : Nat) : Prop := Cal M k "without" [true, true] (fun p : List Nat × List Nat × List Nat => [.str (tx p.1), .lst (p.2.1.map fun (i : Nat) => Da.int (i : Int))]) (fun p => Row p.1 ∧ p.1.length ≤ 300 ∧ p.2.2.Perm p.2.1 ∧ p.2.2.Pairwise (fun a b => b < a) ∧ ∀ i ∈ p.2.2, i < p.1.length) (fun p d => d = .lst (tL (wo p.1 p.2.2)))
def LiftsPost (p : Floor × List Nat × List Nat) (d : Da) : Prop := (L (wF p.1) (back p.2.1 ++ p.2.2) = none ∧ d = .non) ∨ ∃ ts n, L (wF p.1) (back p.2.1 ++ p.2.2) = some n ∧ d = .lst (tL ts) ∧ Told (wF p.1) p.2.1 p.2.2 ts n
abbrev LiftsC (M : Md) (k : Nat) : Prop := Cal M k "liftings" [true, true, true] BetwA BetwPre LiftsPost
abbrev LiftsK (M : Md) (k : Nat) : Prop := CalR3 M k "liftings" ["other", "row", "floor"] BetwA BetwPre LiftsPost
def encC : Option Nat → Da
  | none => .non
  | some c => sg c
abbrev LiftedC (M : Md) (k : Nat) : Prop := Cal M k "lifted" [true, true] (fun p : List Nat × List Nat => [.str (tx p.1), .str (tx p.2)]) (fun p => Row p.1 ∧ Row p.2 ∧ p.1.length ≤ 1000 ∧ p.2.length ≤ 1000) (fun p d => d = encC (chg p.1 p.2))
abbrev WoundC (M : Md) (k : Nat) : Prop := Cal M k "wound" [true, true] (fun p : Floor × List Nat => [encF p.1, .str (tx p.2)]) (fun p => FloorOk p.1 ∧ Row p.2 ∧ p.2.length ≤ 1000) (fun p d => d = .tup (p.1.map fun q => Da.int (wd q.1 p.2)))
section
variable {M : Md} {k : Nat}
theorem ok_without {f : Addr} {fd : FuncData} (F : Fun M.K "without" "without" s_without f fd) (ms : M.mg "sorted" = none) :
    FnOk M.P M.w M.K M.mg M.base CX0 (k + 1) f fd ["row", "places"] (SpD M.K [true, true] (fun p : List Nat × List Nat × List Nat => [.str (tx p.1), .lst (p.2.1.map fun (i : Nat) => Da.int (i : Int))]) (fun p => Row p.1 ∧ p.1.length ≤ 300 ∧ p.2.2.Perm p.2.1 ∧ p.2.2.Pairwise (fun a b => b < a) ∧ ∀ i ∈ p.2.2, i < p.1.length) (fun p d => d = .lst (tL (wo p.1 p.2.2)))) := by
  refine fn_ok F S_without rfl fun X S ⟨r, qs, ds⟩ ⟨hr, hrl, hpm, hpd, hlt⟩ => ?_
  dsimp only at hr hrl hpm hpd hlt ⊢
  show DB X _ [some (.d (.str (tx r))), some (.d (.lst (qs.map fun (i : Nat) => Da.int (i : Int)))), none, none] _ _ _ _
  have hS : ∀ l : List Nat, l.length ≤ 300000 → (tx l).length ≤ sizeLine := fun l hl => by rw [len_tx]; exact sl1 (by omega)
  refine db_cons (ds_ownLs S ?_ (by walk_at "dk") (by walk_at "dk"))
  walk_at "go"
  refine ⟨_, by walk_at "ss", ?_⟩
  refine db_cons (ds_for S (di_lst ?_))
  walk_at "go"
  have hdl : ds.length ≤ 300 := by
    have h1 : ∀ (l : List Nat) (n : Nat), l.Pairwise (fun a b => b < a) → (∀ i ∈ l, i < n) → l.length ≤ n := by
      intro l
      induction l with
      | nil => intro n _ _; exact Nat.zero_le _
      | cons x l ih =>
        intro n hd hn
        obtain ⟨d1, d2⟩ := List.pairwise_cons.mp hd
        have := ih x d2 d1
        have := hn x (by simp)
        rw [List.length_cons]
        omega
    have := h1 ds _ hpd hlt
    omega
  have e1 : (qs.map fun (i : Nat) => Da.int (i : Int)) = (qs.map fun (i : Nat) => (i : Int)).map Da.int := by rw [List.map_map]; rfl
  rw [e1]
  refine bw_sortI (ms := (ds.reverse.map fun (i : Nat) => (i : Int))) (((List.reverse_perm ds).trans hpm).map _) ?_ ?_
  · rw [List.pairwise_map, List.pairwise_reverse]
    exact hpd.imp fun h => by omega
  refine .lst ?_
  have e2 : ((ds.reverse.map fun (i : Nat) => (i : Int)).map Da.int).reverse = ds.map fun (i : Nat) => Da.int (i : Int) := by rw [List.map_map, ← List.map_reverse, List.reverse_reverse]; rfl
  rw [e2]
  refine ⟨_, rfl, fun i δ => ∃ x : Option SD, δ = [some (.d (.str (tx r))), some (.d (.lst ((qs.map fun (i : Nat) => (i : Int)).map Da.int))), some (.ol (tL (wo r (ds.take i)))), x], ⟨_, rfl⟩, ?_, ?_⟩
  · rintro i d δ' hi ⟨x, rfl⟩
    rw [List.getElem?_map] at hi
    obtain ⟨p, hp, rfl⟩ := Option.map_eq_some_iff.mp hi
    have hil := (List.getElem?_eq_some_iff.mp hp).1
    obtain ⟨l, el⟩ := wo_last (ds.take i) r
    have hz := wo_mem (ps := ds.take i) (r := r) (s := (ds.take i).foldl List.eraseIdx r) (by rw [el]; simp)
    have hnx : wo r (ds.take (i + 1)) = wo r (ds.take i) ++ [((ds.take i).foldl List.eraseIdx r).eraseIdx p] := by rw [List.take_add_one, hp]; exact wo_snoc _ _ _
    have hwl : (tL (wo r (ds.take i))).length = i + 1 := by unfold tL; rw [List.length_map, wo_len, List.length_take]; omega
    generalize (ds.take i).foldl List.eraseIdx r = z at el hz hnx
    have hat : atI (tL (wo r (ds.take i))) (-1) = some (.str (tx z)) := by
      rw [el]
      unfold tL
      rw [List.map_append]
      exact atI_last _ _
    refine ⟨_, dg_name S (by walk_at "dk") ⟨_, by walk_at "ss", ?_⟩⟩
    walk_at "go"
    rotate_left
    · omega
    refine ⟨1, rfl, -1, _, rfl, hat, ?_⟩
    walk_at "go"
    refine ⟨_, rfl, .str (hS z (by omega)) ?_⟩
    rw [cut_to z (by omega)]
    walk_at "go"
    refine ⟨1, rfl, -1, _, rfl, hat, ?_⟩
    walk_at "go"
    refine ⟨_, rfl, .str (hS z (by omega)) ?_⟩
    rw [cut_from z (by omega)]
    walk_at "go"
    rotate_left
    · rw [len_tx, len_tx]
      exact sl1 (by rw [List.length_take, List.length_drop]; omega)
    rw [app_tx, show ((p : Int)).toNat = p by omega, show ((p : Int) + 1).toNat = p + 1 by omega, ← List.eraseIdx_eq_take_drop_succ]
    refine ⟨_, by walk_at "ss", ?_⟩
    walk_at "go"
    exact ⟨_, by rw [hnx]; unfold tL; rw [List.map_append]; rfl⟩
  · rintro δ' ⟨x, rfl⟩
    rw [List.length_map, List.take_length]
    refine db_freezeL (x := "found") (by walk_at "gt") ⟨_, by walk_at "ss", ?_⟩ S.nd
    walk_at "go"
    rfl
theorem ok_liftings {f : Addr} {fd : FuncData} (F : Fun M.K "liftings" "liftings" s_liftings f fd) (cB : BackC M k) (cN : NestC M k) (cW : WithC M k) (cT : TightC M k) (ml : M.mg "len" = none) (mr : M.mg "range" = none) :
    FnOk M.P M.w M.K M.mg M.base CX0 (k + 1) f fd ["floor", "row", "other"] (SpD M.K [true, true, true] BetwA BetwPre LiftsPost) := by
  refine fn_ok F S_liftings rfl fun X S ⟨fl, r, o⟩ ⟨hf, hro, hoo, hl⟩ => ?_
  dsimp only at hf hro hoo hl ⊢
  show DB X _ [some (.d (encF fl)), some (.d (.str (tx r))), some (.d (.str (tx o))), none, none, none, none, none, none, none, none, none, none] _ _ _ _
  have hsc := S.hsc
  have hr := hro.row hf
  have ho := hoo.row hf
  have W := wF_ok hf
  have hS : ∀ l : List Nat, l.length ≤ 300000 → (tx l).length ≤ sizeLine := fun l hl => by rw [len_tx]; exact sl1 (by omega)
  walk_at "go"
  refine ⟨r, rfl, ⟨hr, by omega⟩, ?_⟩
  rintro _ rfl
  walk_at "go"
  rotate_left
  · rw [len_tx, len_tx, back_len]
    exact sl1 (by omega)
  rw [app_tx]
  have hwl : (back r ++ o).length = r.length + o.length := by rw [List.length_append, back_len]
  refine ⟨_, by walk_at "ss", ?_⟩
  have hb : BestPre (fl, back r ++ o) := ⟨hf, fun c hc => (List.mem_append.mp hc).elim (RowOf.back hf hro c) (hoo c), by show (back r ++ o).length ≤ 300; omega⟩
  walk_at "go"
  refine ⟨(fl, back r ++ o), rfl, hb, ?_⟩
  rintro pd hpd
  refine ⟨_, by walk_at "ss", ?_⟩
  have hnp : (L (wF fl) (back r ++ o) = none ∧ pd = .non) ∨ ∃ ps n, L (wF fl) (back r ++ o) = some n ∧ pd = encNs ps ∧ NestI (wF fl) (back r ++ o) 0 (back r ++ o).length ps n := hpd
  rcases hnp with ⟨hL, rfl⟩ | ⟨ps, n, hL, rfl, hN⟩
  · walk_at "go"
    refine .isN ⟨fun _ => ?_, fun z => absurd z (by decide)⟩
    walk_at "go"
    exact .inl ⟨hL, rfl⟩
  refine db_cons (ds_if ?_)
  walk_at "go"
  refine .isNs (fun v e => nomatch e) ⟨fun z => absurd z (by decide), fun _ => ?_⟩
  refine db_nil ?_
  have hfew := NestI.few hN
  refine db_cons (ds_set S ?_ (by walk_at "dk") (hs := by generalize X.env = env at hsc; cases env; cases hsc; rfl))
  refine de_dc2 kindK S (os0 := ["pair"]) (os := ["pair", "place"]) (os1 := ["place"]) (di_tup ?_) (by walk_at "dk") (by decide) (by decide)
  walk_at "go"
  refine ⟨_, rfl, ?_⟩
  have hlen2 : (ps.flatMap fun p : Nat × Nat => [p.1, p.2]).length ≤ 1000000 := by
    rw [List.length_flatMap]
    have : ∀ l : List (Nat × Nat), (l.map fun p => [p.1, p.2].length).sum = 2 * l.length := by
      intro l
      induction l with
      | nil => rfl
      | cons p l ih =>
        simp only [List.map_cons, List.sum_cons, List.length_cons, List.length_nil] at ih ⊢
        omega
    rw [this]
    omega
  refine dc2_map (mm := fun p => [p.1, p.2]) (g1 := fun _ i => Da.int ((i : Nat) : Int)) (f := fun _ i => (.inl ((i : Nat) : Int), V.bl true)) (by walk_at "wp") hlen2 (fun X1 S1 p hp => ?_) ?_
  · refine dg_name S1 (by walk_at "dk") ⟨_, by walk_at "ss", ⟨rfl, _, by walk_at "wp", fun X2 S2 => di_tup ?_⟩⟩
    walk_at "go"
    refine ⟨_, rfl, rfl, fun X3 S3 i hi => ?_⟩
    refine dg_name S3 (by walk_at "dk") ⟨_, by walk_at "ss", fun X4 S4 => ?_⟩
    walk_at "go"
    intro X5 S5
    walk_at "go"
    exact ⟨rfl, rfl⟩
  show ∃ δ', Ss _ _ _ (some (.d (.dk (putsE (ps.flatMap fun p : Nat × Nat => [p.1, p.2].map fun (i : Nat) => ((.inl (i : Int) : Key), V.bl true)))))) δ' ∧ _
  have hheld : ∀ i : Nat, (valV (putsE (ps.flatMap fun p : Nat × Nat => [p.1, p.2].map fun (i : Nat) => ((.inl (i : Int) : Key), V.bl true))) (.inl (i : Int))).isSome = (places ps).contains i := fun i => by
    rw [Bool.eq_iff_iff, putsE_iff, List.contains_iff_mem, places_mem, List.mem_map]
    constructor
    · rintro ⟨q, hq, e⟩
      obtain ⟨p, hp, hq⟩ := List.mem_flatMap.mp hq
      obtain ⟨j, hj, rfl⟩ := List.mem_map.mp hq
      have e : (Sum.inl ((j : Nat) : Int) : Key) = .inl (i : Int) := e
      injection e with e
      have : j = i := by omega
      subst this
      exact ⟨p, hp, by simpa using hj⟩
    · rintro ⟨p, hp, h⟩
      exact ⟨(.inl (i : Int), V.bl true), List.mem_flatMap.mpr ⟨p, hp, List.mem_map.mpr ⟨i, by simpa using h, rfl⟩⟩, rfl⟩
  generalize putsE (ps.flatMap fun p : Nat × Nat => [p.1, p.2].map fun (i : Nat) => ((.inl (i : Int) : Key), V.bl true)) = kvs at hheld
  refine ⟨_, by walk_at "ss", ?_⟩
  refine db_cons (ds_setLc1 S (di_range1 S mr (by walk_at "dk") ?_) (by walk_at "dk") (by walk_at "dk") (by walk_at "dk"))
  walk_at "go"
  refine bw_lenS (hS _ (by omega)) ?_
  rw [len_tx]
  refine ⟨_, rfl, by omega, by omega, ?_⟩
  rw [Int.toNat_natCast]
  unfold rangeD
  refine lc_filter (p := fun i => !(places ps).contains i) (f := fun (i : Nat) => Da.int (i : Int)) (by walk_at "wp") (by rw [List.length_range]; omega) (fun X1 S1 i hi => ?_) ?_
  · refine dg_name S1 (by walk_at "dk") ⟨_, by walk_at "ss", fun X2 S2 => ?_⟩
    simp only [Int.zero_add]
    walk_at "go"
    refine .notInK (q := .inl (i : Int)) ⟨by rw [hheld], fun _ X3 S3 => ?_⟩
    walk_at "go"
    rfl
  rw [hwl]
  refine ⟨_, by walk_at "ss", ?_⟩
  show DB X _ [_, _, _, _, _, _, some (.d (.lst ((freeL ps (r.length + o.length)).map fun (i : Nat) => Da.int (i : Int)))), _, _, _, _, _, _] _ _ _ _
  have hTold := told_ok W hr ho hN
  have hfa := freeL_asc ps (r.length + o.length)
  have hfm : ∀ i ∈ freeL ps (r.length + o.length), i < r.length + o.length := fun i hi => (freeL_mem.mp hi).1
  have hfl : (freeL ps (r.length + o.length)).length ≤ 300 := by
    unfold freeL
    refine Nat.le_trans (List.length_filter_le _ _) ?_
    rw [List.length_range]
    exact hl
  have td := takenL_desc hfa r.length
  have pa := putL_asc hfa r.length
  have tb : ∀ p ∈ takenL (freeL ps (r.length + o.length)) r.length, p < r.length := fun p hp => (taken_mem.mp hp).1
  have pb : ∀ p ∈ putL (freeL ps (r.length + o.length)) r.length, p < o.length := fun p hp => (put_mem.mp hp).1
  have hLn := hL
  generalize hfr : freeL ps (r.length + o.length) = fr at hTold hfa hfm hfl td pa tb pb
  refine db_cons (ds_setLc1 S (di_lst ?_) (by walk_at "dk") (by walk_at "dk") (by walk_at "dk"))
  walk_at "go"
  refine ⟨_, rfl, ?_⟩
  refine lc_filter (p := fun p => decide (p < r.length)) (f := fun p => Da.int ((r.length - 1 - p : Nat) : Int)) (by walk_at "wp") (by omega) (fun X1 S1 i hi => ?_) ?_
  · refine dg_name S1 (by walk_at "dk") ⟨_, by walk_at "ss", fun X2 S2 => ?_⟩
    walk_at "go"
    refine bw_lenS (hS r (by omega)) ?_
    rw [len_tx]
    refine .lt ⟨decide_eq_decide.mpr (by omega), fun h X3 S3 => ?_⟩
    have h := of_decide_eq_true h
    walk_at "go"
    refine bw_lenS (hS r (by omega)) ?_
    rw [len_tx]
    walk_at "go"
    rw [show (r.length : Int) - 1 - (i : Int) = ((r.length - 1 - i : Nat) : Int) by omega]
  rw [show ((fr.filter fun p => decide (p < r.length)).map fun p => Da.int ((r.length - 1 - p : Nat) : Int)) = (takenL fr r.length).map fun (i : Nat) => Da.int (i : Int) by unfold takenL; rw [List.map_map]; rfl]
  refine ⟨_, by walk_at "ss", ?_⟩
  refine db_cons (ds_setLc1 S (di_lst ?_) (by walk_at "dk") (by walk_at "dk") (by walk_at "dk"))
  walk_at "go"
  refine ⟨_, rfl, ?_⟩
  refine lc_filter (p := fun p => decide (r.length ≤ p)) (f := fun p => Da.int ((p - r.length : Nat) : Int)) (by walk_at "wp") (by omega) (fun X1 S1 i hi => ?_) ?_
  · refine dg_name S1 (by walk_at "dk") ⟨_, by walk_at "ss", fun X2 S2 => ?_⟩
    walk_at "go"
    refine bw_lenS (hS r (by omega)) ?_
    rw [len_tx]
    refine .ge ⟨decide_eq_decide.mpr (by omega), fun h X3 S3 => ?_⟩
    have h := of_decide_eq_true h
    walk_at "go"
    refine bw_lenS (hS r (by omega)) ?_
    rw [len_tx]
    refine .int ?_
    rw [show (i : Int) - (r.length : Int) = ((i - r.length : Nat) : Int) by omega]
  rw [show ((fr.filter fun p => decide (r.length ≤ p)).map fun p => Da.int ((p - r.length : Nat) : Int)) = (putL fr r.length).map fun (i : Nat) => Da.int (i : Int) by unfold putL; rw [List.map_map]; rfl]
  refine ⟨_, by walk_at "ss", ?_⟩
  walk_at "go"
  have el : tL (wo r (takenL fr r.length)) ++ (tL (wo o (putL fr r.length).reverse)).reverse.drop (Int.toNat 1) = tL (wo r (takenL fr r.length) ++ (wo o (putL fr r.length).reverse).reverse.tail) := by
    unfold tL
    rw [List.map_append, ← List.map_reverse, show Int.toNat 1 = 1 from rfl, List.drop_one, List.map_tail]
  have hln : (wo r (takenL fr r.length) ++ (wo o (putL fr r.length).reverse).reverse.tail).length ≤ 1000 := by
    have h1 : (takenL fr r.length).length ≤ 300 := by
      unfold takenL
      rw [List.length_map]
      exact Nat.le_trans (List.length_filter_le _ _) hfl
    have h2 : (putL fr r.length).length ≤ 300 := by
      unfold putL
      rw [List.length_map]
      exact Nat.le_trans (List.length_filter_le _ _) hfl
    rw [List.length_append, List.length_tail, List.length_reverse, wo_len, wo_len, List.length_reverse]
    omega
  have hmm : ∀ t ∈ wo r (takenL fr r.length) ++ (wo o (putL fr r.length).reverse).reverse.tail, Row t ∧ t.length ≤ 300 := fun t ht => by
    rcases List.mem_append.mp ht with ht | ht
    · obtain ⟨h1, h2⟩ := wo_mem ht
      exact ⟨fun c hc => hr c (h1 c hc), by omega⟩
    · obtain ⟨h1, h2⟩ := wo_mem (List.mem_reverse.mp (List.mem_of_mem_tail ht))
      exact ⟨fun c hc => ho c (h1 c hc), by omega⟩
  refine ⟨(r, takenL fr r.length, takenL fr r.length), rfl, ⟨hr, by show r.length ≤ 300; omega, List.Perm.refl _, td, tb⟩, ?_⟩
  rintro _ rfl
  dsimp only
  walk_at "go"
  refine ⟨(o, putL fr r.length, (putL fr r.length).reverse), rfl, ⟨ho, by show o.length ≤ 300; omega, List.reverse_perm _, List.pairwise_reverse.mpr pa, fun i hi => pb i (List.mem_reverse.mp hi)⟩, ?_⟩
  rintro _ rfl
  dsimp only
  walk_at "go"
  refine .lst ?_
  walk_at "go"
  refine ⟨1, rfl, ?_⟩
  walk_at "go"
  refine .lst ?_
  rw [cutL_from _ (by decide)]
  walk_at "go"
  rotate_left
  · have := congrArg List.length el
    rw [List.length_append] at this
    rw [this]
    unfold tL
    rw [List.length_map]
    exact sl1 (by omega)
  rw [el]
  have eT : toldL r o fr = (wo r (takenL fr r.length) ++ (wo o (putL fr r.length).reverse).reverse.tail).map tight := rfl
  generalize wo r (takenL fr r.length) ++ (wo o (putL fr r.length).reverse).reverse.tail = ts at hln hmm eT
  refine ⟨_, by walk_at "ss", ?_⟩
  walk_at "go"
  refine de_lc1 S (di_lst ?_) (by walk_at "dk")
  walk_at "go"
  refine ⟨_, rfl, ?_⟩
  refine lc_map (f := fun t => Da.str (tx (tight t))) (by walk_at "wp") (by omega) (fun X1 S1 t ht => ?_) ?_
  · obtain ⟨h1, h2⟩ := hmm t ht
    refine dg_name S1 (by walk_at "dk") ⟨_, by walk_at "ss", fun X2 S2 => ?_⟩
    walk_at "go"
    exact ⟨t, rfl, ⟨h1, by omega⟩, fun d hd => hd⟩
  exact .inr ⟨toldL r o fr, n, hLn, by rw [eT]; unfold tL; rw [List.map_map]; rfl, hTold⟩
end

/-! ### anything at all, of bounded size -/
inductive Th : Nat → Nat → Da → Prop
  | non {B n : Nat} : Th B n .non
  | bl {B n : Nat} (b : Bool) : Th B n (.bl b)
  | int {B n : Nat} {i : Int} : i.natAbs ≤ 10 ^ B → Th B n (.int i)
  | str {B n : Nat} {r : List Nat} : Row r → r.length ≤ B → Th B n (.str (tx r))
  | tup {B n : Nat} {l : List Da} : l.length ≤ B → (∀ d ∈ l, Th B n d) → Th B (n + 1) (.tup l)
  | lst {B n : Nat} {l : List Da} : l.length ≤ B → (∀ d ∈ l, Th B n d) → Th B (n + 1) (.lst l)
theorem Th.mono {B C : Nat} (hB : B ≤ C) {n : Nat} {d : Da} (h : Th B n d) : ∀ {m : Nat}, n ≤ m → Th C m d := by
  induction h with
  | non => intro _ _; exact .non
  | bl b => intro _ _; exact .bl b
  | int hi => intro _ _; exact .int (Nat.le_trans hi (Nat.pow_le_pow_right (by decide) hB))
  | str hr hl => intro _ _; exact .str hr (by omega)
  | tup hl _ ih =>
    intro m hm
    obtain ⟨m', rfl⟩ : ∃ m', m = m' + 1 := ⟨m - 1, by omega⟩
    exact .tup (by omega) fun d hd => ih d hd (by omega)
  | lst hl _ ih =>
    intro m hm
    obtain ⟨m', rfl⟩ : ∃ m', m = m' + 1 := ⟨m - 1, by omega⟩
    exact .lst (by omega) fun d hd => ih d hd (by omega)
theorem Th.tyK {B n : Nat} {d : Da} (h : Th B n d) : TyK d := by cases h <;> trivial
theorem strOk_row {r : List Nat} (h : Row r) : PyData.strOk (tx r) = true := by
  unfold PyData.strOk
  simp
  intro c hc
  have := (h c hc).lt
  omega
theorem Th.shp {B n : Nat} {d : Da} (h : Th B n d) : Shp n d := by
  induction h with
  | non => exact .non
  | bl b => exact .bl b
  | int _ => exact .int _
  | str hr _ => exact .str (strOk_row hr)
  | tup _ _ ih => exact .tup ih
  | lst _ _ ih => exact .lst ih
/-- a tuple or a list -/
def SqD (d : Da) : Prop := ∃ l, d = .tup l ∨ d = .lst l
theorem Th.items {B n : Nat} {d : Da} {l : List Da} (h : Th B (n + 1) d) (e : d = .tup l ∨ d = .lst l) : l.length ≤ B ∧ ∀ z ∈ l, Th B n z := by
  rcases e with rfl | rfl
  · cases h with
    | tup h1 h2 => exact ⟨h1, h2⟩
  · cases h with
    | lst h1 h2 => exact ⟨h1, h2⟩
theorem Th.text {B n : Nat} {x : Str} (h : Th B n (.str x)) : ∃ r, x = tx r ∧ Row r ∧ r.length ≤ B := by
  cases h with
  | str h1 h2 => exact ⟨_, rfl, h1, h2⟩
theorem Th.num {B n : Nat} {i : Int} (h : Th B n (.int i)) : i.natAbs ≤ 10 ^ B := by
  cases h with
  | int h => exact h
def rowB (x : Str) : Bool := x.cps.toList.all fun c => (decide (97 ≤ c) && decide (c ≤ 122)) || (decide (65 ≤ c) && decide (c ≤ 90))
theorem thS {B n : Nat} (x : Str) (h : rowB x = true) (hl : x.cps.toList.length ≤ B) : Th B n (.str x) := by
  have e : x = tx x.cps.toList := by cases x; simp
  rw [e]
  refine .str (fun c hc => ?_) hl
  have := List.all_eq_true.mp h c hc
  unfold IsT
  simp at this
  exact this
theorem all_nil {P : Da → Prop} : ∀ d ∈ ([] : List Da), P d := fun _ h => nomatch h
theorem all_cons {P : Da → Prop} {d : Da} {l : List Da} (h1 : P d) (h2 : ∀ d ∈ l, P d) : ∀ e ∈ d :: l, P e := fun e he => (List.mem_cons.mp he).elim (fun z => z ▸ h1) (h2 e)
/-- a number's bits -/
theorem log_of {B : Nat} {i : Int} (h : i.natAbs ≤ 10 ^ B) : i.natAbs.log2 ≤ 4 * B := by
  have h1 : 10 ^ B ≤ 2 ^ (4 * B) := by
    rw [Nat.pow_mul]
    exact Nat.pow_le_pow_left (by decide) B
  by_cases e : i.natAbs = 0
  · rw [e]
    show 0 ≤ _
    omega
  · have : i.natAbs.log2 < 4 * B + 1 := (Nat.log2_lt e).mpr (by rw [Nat.pow_succ]; omega)
    omega
theorem mul_th {B : Nat} (hB : B ≤ 1000) {i : Int} (h : i.natAbs ≤ 10 ^ B) : CMulW 1000 i := by
  have := log_of h
  unfold CMulW
  have e : (1000 : Int).natAbs.log2 = 9 := by decide +kernel
  omega
theorem pow_step (B : Nat) : 10 ^ (B + 4) = 10000 * 10 ^ B := by rw [Nat.pow_add]; omega
theorem upper_row {r : List Nat} (h : Row r) : ∃ s, Txt.upper (tx r) = tx s ∧ Row s ∧ s.length = r.length := by
  refine ⟨r.map up1, ?_, fun c hc => ?_, List.length_map _⟩
  · rw [upper_ascii (x := tx r) (fun c hc => (h c (by simpa using hc)).lt)]
    show (⟨(r.toArray).map up1⟩ : Str) = _
    rw [List.map_toArray]
  · obtain ⟨d, hd, rfl⟩ := List.mem_map.mp hc
    have hd := h d hd
    exact (by decide +kernel : ∀ c : Fin 128, rowB (tx [c.val]) = true → rowB (tx [up1 c.val]) = true) ⟨d, hd.lt⟩ (by unfold rowB; unfold IsT at hd; simp; exact hd) |> fun z => by
      unfold rowB at z
      simp at z
      exact z
abbrev ThingC (D : Nat) (M : Md) (k : Nat) : Prop := Cal M k "_law_thing" [true, true] (fun n : Nat => [.drw, .int (n : Int)]) (fun n => n ≤ D) (fun n d => Th 40 (n + 2) d)
section
variable {M : Md} {k : Nat}
end
theorem DS.nxi {X : Cx} {st : Stmt} {δ : Sg} {nx nx' : Sg → Prop} {rt : Da → Prop} {bk ct : Sg → Prop} (h : DS X st δ nx rt bk ct) (hi : ∀ δ, nx δ → nx' δ) : DS X st δ nx' rt bk ct := .mk fun Bs B Hs H σ o D f => h Bs B Hs H σ o D { f with nx := fun δ σ Hs' H o s p => f.nx δ σ Hs' H o s (hi δ p) }
def OtherPre (D : Nat) (p : Nat × Da × Nat) : Prop := SqD p.2.1 ∧ Th p.1 (p.2.2 + 5) p.2.1 ∧ 40 ≤ p.1 ∧ p.1 ≤ 200 ∧ p.2.2 ≤ D ∧ p.2.2 ≤ 10
abbrev OtherC (D : Nat) (M : Md) (k : Nat) : Prop := Cal M k "_law_otherwise" [true, true, true] (fun p : Nat × Da × Nat => [.drw, p.2.1, .int (p.2.2 : Int)]) (OtherPre D) (fun p d => SqD d ∧ Th (p.1 + 4) (p.2.2 + 5) d)
theorem ixN_nat {n j : Nat} (h : j < n) : ixN n (j : Int) = some j := by
  unfold ixN
  rw [if_pos (by omega), if_pos (by omega)]
  simp
section
variable {M : Md} {k : Nat}
end

/-! ### floors and rows judged -/
def isNo : Da → Bool
  | .a .non => true
  | _ => false
theorem isNo_v (v : V) : decide (v = .non) = isNo (.a v) := by cases v <;> simp [isNo]
theorem cmp_none {Φ : Bool → Prop} {d : Da} (h : Φ (isNo d)) : CmpW Φ .Is d .non := by
  cases d with
  | a v => exact .isN (by rw [isNo_v]; exact h)
  | lst l => exact .isNs (fun v e => nomatch e) h
  | tup l => exact .isNs (fun v e => nomatch e) h
  | dk l => exact .isNs (fun v e => nomatch e) h
  | dt l => exact .isNs (fun v e => nomatch e) h
  | drw => exact .isNs (fun v e => nomatch e) h
  | scr l => exact .isNs (fun v e => nomatch e) h
theorem cmp_some {Φ : Bool → Prop} {d : Da} (h : Φ (!isNo d)) : CmpW Φ .IsNot d .non := by
  cases d with
  | a v => exact .notN (by rw [isNo_v]; exact h)
  | lst l => exact .notNs (fun v e => nomatch e) h
  | tup l => exact .notNs (fun v e => nomatch e) h
  | dk l => exact .notNs (fun v e => nomatch e) h
  | dt l => exact .notNs (fun v e => nomatch e) h
  | drw => exact .notNs (fun v e => nomatch e) h
  | scr l => exact .notNs (fun v e => nomatch e) h
/-- a post's letter -/
def postD : Da → Option Nat
  | .tup [.a (.str x), y] => match x.cps.toList with
    | [c] => if (97 ≤ c ∧ c ≤ 122) ∧ (isNo y || btw 1 100 y) = true then some c else none
    | _ => none
  | _ => none
theorem postD_some {d : Da} {c : Nat} (h : postD d = some c) : ∃ y, d = .tup [sg c, y] ∧ 97 ≤ c ∧ c ≤ 122 ∧ (isNo y || btw 1 100 y) = true := by
  unfold postD at h
  split at h
  · rename_i x y
    split at h
    · rename_i c' e
      split at h
      · rename_i q
        cases h
        refine ⟨y, ?_, q.1.1, q.1.2, q.2⟩
        have ex : x = tx [c] := by
          cases x with
          | mk a => exact congrArg Str.mk (Array.ext' e)
        rw [ex]
      · cases h
    · cases h
  · cases h
theorem postD_sg {c : Nat} {y : Da} : postD (.tup [.str (tx [c]), y]) = if (97 ≤ c ∧ c ≤ 122) ∧ (isNo y || btw 1 100 y) = true then some c else none := rfl
theorem postD_no {ds : List Da} (h : ds.length ≠ 2) : postD (.tup ds) = none := by
  match ds, h with
  | [], _ => rfl
  | [a], _ => unfold postD; split <;> first | rfl | (rename_i e; cases e)
  | [a, b], h => exact absurd rfl h
  | a :: b :: c :: l, _ => unfold postD; split <;> first | rfl | (rename_i e; cases e)
theorem postD_nt {d : Da} (h : isT "tuple" d = false) : postD d = none := by
  cases d with
  | tup l => rw [isT_tup] at h; cases h
  | _ => rfl
theorem postD_ns {a b : Da} (h : isT "str" a = false) : postD (.tup [a, b]) = none := by
  cases a with
  | a v =>
    cases v with
    | str x => have : isT "str" (.str x) = true := isT_str
               rw [this] at h; cases h
    | _ => rfl
  | _ => rfl
theorem postD_nl {r : List Nat} {b : Da} (h : r.length ≠ 1) : postD (.tup [.str (tx r), b]) = none := by
  match r, h with
  | [], _ => rfl
  | [c], h => exact absurd rfl h
  | c :: d :: l, _ => rfl
/-- above the last letter, if there is one -/
def ltO : Option Nat → Nat → Bool
  | some a, c => decide (a < c)
  | none, _ => true
/-- posts one after another, each letter above the last -/
def chk : Option Nat → List Da → Bool
  | _, [] => true
  | b, e :: es => match postD e with
    | some c => ltO b c && chk (some c) es
    | none => false
def floorB : Da → Bool
  | .tup ds => decide (1 ≤ ds.length ∧ ds.length ≤ 8) && chk none ds
  | _ => false
theorem floorB_nt {d : Da} (h : isT "tuple" d = false) : floorB d = false := by
  cases d with
  | tup l => rw [isT_tup] at h; cases h
  | _ => rfl
theorem chk_post {es : List Da} : ∀ {b : Option Nat}, chk b es = true → es.all (fun e => (postD e).isSome) = true := by
  induction es with
  | nil => intro _ _; rfl
  | cons e es ih =>
    intro b h
    unfold chk at h
    cases hp : postD e with
    | none => rw [hp] at h; cases h
    | some c =>
      rw [hp] at h
      have h2 := ((Bool.and_eq_true _ _).mp h).2
      rw [List.all_cons, hp, ih h2]
      rfl
theorem zip_chk : ∀ {es : List Da} {e : Da} {a : Nat}, postD e = some a → (es.all fun e => (postD e).isSome) = true → (((e :: es).zip es).all fun p => decide ((postD p.1).getD 0 < (postD p.2).getD 0)) = chk (some a) es := by
  intro es
  induction es with
  | nil => intro _ _ _ _; rfl
  | cons f fs ih =>
    intro e a he hall
    rw [List.all_cons] at hall
    have h1 := ((Bool.and_eq_true _ _).mp hall).1
    have h2 := ((Bool.and_eq_true _ _).mp hall).2
    obtain ⟨c, hc⟩ := Option.isSome_iff_exists.mp h1
    rw [List.zip_cons_cons, List.all_cons, ih hc h2]
    conv => rhs; unfold chk
    rw [hc, he]
    rfl
abbrev AnyOk (d : Da) : Prop := ∃ n, Th 1000 n d
abbrev IsPostC (M : Md) (k : Nat) : Prop := Cal M k "is_post" [true] (fun d : Da => [d]) AnyOk (fun d y => y = .bl (postD d).isSome)
abbrev IsFloorC (M : Md) (k : Nat) : Prop := Cal M k "is_floor" [true] (fun d : Da => [d]) AnyOk (fun d y => y = .bl (floorB d))
abbrev LWholeC (M : Md) (k : Nat) : Prop := Cal M k "_law_is_whole" [true, true, true] (fun p : Da × Int × Int => [p.1, .int p.2.1, .int p.2.2]) (fun p => TyK p.1) (fun p d => d = .bl (btw p.2.1 p.2.2 p.1))
abbrev LIsFloorC (M : Md) (k : Nat) : Prop := Cal M k "_law_is_floor" [true] (fun d : Da => [d]) AnyOk (fun d y => y = .bl (floorB d))
theorem any_item {l : List Da} (h : AnyOk (.tup l)) : l.length ≤ 1000 ∧ ∀ d ∈ l, AnyOk d := by
  obtain ⟨n, h⟩ := h
  cases h with
  | tup h1 h2 => exact ⟨h1, fun d hd => ⟨_, h2 d hd⟩⟩
theorem AnyOk.tyK {d : Da} (h : AnyOk d) : TyK d := h.elim fun _ h => h.tyK
theorem AnyOk.text {x : Str} (h : AnyOk (.str x)) : ∃ r, x = tx r ∧ Row r ∧ r.length ≤ 1000 := h.elim fun _ h => h.text
theorem letter_lt (c d : Nat) : decide ((tx [c]).cps.toList < (tx [d]).cps.toList) = decide (c < d) := by
  congr 1
  refine propext ⟨fun h => ?_, fun h => List.Lex.rel h⟩
  cases h with
  | rel h => exact h
  | cons h => cases h
theorem at0 {α : Type} (x : α) (l : List α) : atI (x :: l) 0 = some x := atI_nat (xs := x :: l) (j := 0) rfl
section
variable {M : Md} {k : Nat}
theorem ok_ispost {f : Addr} {fd : FuncData} (F : Fun M.K "is_post" "is_post" s_is_post f fd) (cI : BetweenC M k) (hL : ∃ t, M.mg "LETTERS" = some (.str lettersS t)) (hC : GlI M "MOST_COST" 100) (mi : M.mg "isinstance" = none) (mt : M.mg "tuple" = none) (ms : M.mg "str" = none) (ml : M.mg "len" = none) :
    FnOk M.P M.w M.K M.mg M.base CX0 (k + 1) f fd ["thing"] (SpD M.K [true] (fun d : Da => [d]) AnyOk (fun d y => y = .bl (postD d).isSome)) := by
  refine fn_ok F S_is_post rfl fun X S d hd => ?_
  show DB X _ [some (.d d)] _ _ _ _
  refine db_cons (ds_if ?_)
  refine dt_w (dw_or (dt_not (dt_val ?_)))
  walk_at "go"
  refine bw_is hd.tyK (by decide) ⟨_, rfl, fun h1 => ?_, fun h1 => ?_⟩
  · refine spT ?_
    walk_at "go"
    rw [postD_nt (by simpa using h1)]
    rfl
  obtain ⟨ds, rfl⟩ := tup_of (by simpa using h1) hd.tyK
  obtain ⟨hdl, hit⟩ := any_item hd
  refine dw_or ?_
  walk_at "go"
  refine bw_lenT ?_
  walk_at "go"
  refine .neS rfl ⟨fun h3 => ?_, fun h3 => ?_⟩
  · have hl : ds.length ≠ 2 := by
      have : V.int (ds.length : Int) ≠ V.int 2 := by simpa using h3
      intro e
      rw [e] at this
      exact this rfl
    refine spT ?_
    walk_at "go"
    rw [postD_no hl]
    rfl
  have hl : ds.length = 2 := by
    have : V.int (ds.length : Int) = V.int 2 := by simpa using h3
    have := V.int.inj this
    omega
  match ds, hl with
  | [e0, e1], _ =>
  have a0 : atI [e0, e1] 0 = some e0 := at0 _ _
  have a1 : atI [e0, e1] 1 = some e1 := atI_nat (xs := [e0, e1]) (j := 1) rfl
  have t0 := hit e0 (by simp)
  have t1 := hit e1 (by simp)
  refine dw_or (dt_not (dt_val ?_))
  walk_at "go"
  refine .tup a0 ?_
  walk_at "go"
  refine bw_is t0.tyK (by decide) ⟨_, rfl, fun h1 => ?_, fun h1 => ?_⟩
  · refine spT ?_
    walk_at "go"
    rw [postD_ns (by simpa using h1)]
    rfl
  obtain ⟨x, rfl⟩ := str_of (by simpa using h1) t0.tyK
  obtain ⟨r, rfl, hr, hrl⟩ := t0.text
  refine dw_or1 ?_
  walk_at "go"
  refine .tup a0 ?_
  walk_at "go"
  refine bw_lenS (by rw [len_tx]; exact sl1 (by omega)) ?_
  rw [len_tx]
  walk_at "go"
  refine .neS rfl ⟨fun h3 => ?_, fun h3 => ?_⟩
  · have hl : r.length ≠ 1 := by
      have : V.int (r.length : Int) ≠ V.int 1 := by simpa using h3
      intro e
      rw [e] at this
      exact this rfl
    walk_at "go"
    rw [postD_nl hl]
    rfl
  have hl : r.length = 1 := by
    have : V.int (r.length : Int) = V.int 1 := by simpa using h3
    have := V.int.inj this
    omega
  match r, hl with
  | [c], _ =>
  rw [postD_sg]
  walk_at "go"
  refine de_and ?_
  walk_at "go"
  refine .tup a0 ?_
  walk_at "go"
  refine .inS ⟨_, rfl, fun h => ?_, fun h => ?_⟩
  · have h1 := (mem_letters c).mp (of_decide_eq_true h)
    refine de_one ?_
    refine de_or ?_
    walk_at "go"
    refine .tup a1 ?_
    walk_at "go"
    refine cmp_none ⟨_, rfl, fun hn => ?_, fun hn => ?_⟩
    · rw [if_pos ⟨h1, by rw [hn]; rfl⟩]
      rfl
    · refine de_one ?_
      walk_at "go"
      refine .tup a1 ?_
      walk_at "go"
      refine ⟨(e1, 1, 100), rfl, t1.tyK, ?_⟩
      rintro _ rfl
      dsimp only
      cases hb : btw 1 100 e1 with
      | true => rw [if_pos ⟨h1, by rw [hn]; rfl⟩]; rfl
      | false => rw [if_neg fun z => by rw [hn] at z; exact absurd z.2 (by decide)]; rfl
  · have h1 : ¬ (97 ≤ c ∧ c ≤ 122) := fun z => (of_decide_eq_false h) ((mem_letters c).mpr z)
    rw [if_neg fun z => h1 z.1]
    rfl
end

/-! ### floors, turns, rows judged -/
def allIn (fl : Floor) (r : List Nat) : Bool := r.all fun c => decide (c ∈ turnsF fl)
def turnsB (fl : Floor) (most : Nat) : Da → Bool
  | .a (.str x) => decide (x.cps.toList.length ≤ most) && allIn fl x.cps.toList
  | _ => false
theorem turnsB_ns {fl : Floor} {m : Nat} {d : Da} (h : isT "str" d = false) : turnsB fl m d = false := by
  cases d with
  | a v =>
    cases v with
    | str x => have : isT "str" (.str x) = true := isT_str
               rw [this] at h; cases h
    | _ => rfl
  | _ => rfl
/-- a thing a row may be asked to be -/
def RowAny (d : Da) : Prop := TyK d ∧ ∀ x, d = .str x → x.length ≤ 1000 ∧ ∀ c ∈ x.cps.toList, c < 128
abbrev AreC (M : Md) (k : Nat) : Prop := Cal M k "are_turns" [true, true, true] (fun p : Floor × Da × Nat => [encF p.1, p.2.1, .int (p.2.2 : Nat)]) (fun p => FloorOk p.1 ∧ RowAny p.2.1) (fun p y => y = .bl (turnsB p.1 p.2.2 p.2.1))
abbrev IsRowC (M : Md) (k : Nat) : Prop := Cal M k "is_row" [true, true] (fun p : Floor × Da => [encF p.1, p.2]) (fun p => FloorOk p.1 ∧ RowAny p.2) (fun p y => y = .bl (turnsB p.1 40 p.2))
abbrev LIsRowC (M : Md) (k : Nat) : Prop := Cal M k "_law_is_row" [true, true] (fun p : Floor × Da => [encF p.1, p.2]) (fun p => FloorOk p.1 ∧ RowAny p.2) (fun p y => y = .bl (turnsB p.1 40 p.2))
abbrev TrulyC (M : Md) (k : Nat) : Prop := Cal M k "_law_truly" [true, true] (fun p : Bool × Bool => [.bl p.1, .bl p.2]) (fun _ => True) (fun p y => y = .bl (decide (p.1 = p.2)))
theorem str_eta (x : Str) : x = tx x.cps.toList := by cases x; simp
section
variable {M : Md} {k : Nat}
theorem ok_isfloor {f : Addr} {fd : FuncData} (F : Fun M.K "is_floor" "is_floor" s_is_floor f fd) (cP : IsPostC M k) (hM : GlI M "MOST_POSTS" 8) (mi : M.mg "isinstance" = none) (mt : M.mg "tuple" = none) (ml : M.mg "len" = none) (ma : M.mg "all" = none) (mz : M.mg "zip" = none) :
    FnOk M.P M.w M.K M.mg M.base CX0 (k + 1) f fd ["thing"] (SpD M.K [true] (fun d : Da => [d]) AnyOk (fun d y => y = .bl (floorB d))) := by
  refine fn_ok F S_is_floor rfl fun X S d hd => ?_
  show DB X _ [some (.d d), none, none] _ _ _ _
  refine db_cons (ds_if ?_)
  refine dt_w (dw_or (dt_not (dt_val ?_)))
  walk_at "go"
  refine bw_is hd.tyK (by decide) ⟨_, rfl, fun h1 => ?_, fun h1 => ?_⟩
  · refine spT ?_
    walk_at "go"
    rw [floorB_nt (by simpa using h1)]
  obtain ⟨ds, rfl⟩ := tup_of (by simpa using h1) hd.tyK
  obtain ⟨hdl, hit⟩ := any_item hd
  have hlen : ∀ b : Bool, (b = false → ¬ (1 ≤ ds.length ∧ ds.length ≤ 8)) → b = false → floorB (.tup ds) = false := fun b h e => by
    show (decide _ && _) = false
    rw [decide_eq_false (h e)]
    rfl
  refine dw_or ?_
  refine dt_not ?_
  walk_at "go"
  refine bw_lenT ?_
  walk_at "go"
  refine .le ⟨fun g1 => ?_, fun g1 => ?_⟩
  rotate_left
  · have g := of_decide_eq_false g1
    walk_at "go"
    rw [hlen false (fun _ z => g (by omega)) rfl]
  have g1 := of_decide_eq_true g1
  walk_at "go"
  refine .le ⟨fun g2 => ?_, fun g2 => ?_⟩
  · have g : ¬ ((ds.length : Int) ≤ 8) := by simpa using g2
    walk_at "go"
    rw [hlen false (fun _ z => g (by omega)) rfl]
  have g2 : (ds.length : Int) ≤ 8 := by simpa using g2
  have hfl : floorB (.tup ds) = chk none ds := by
    show (decide _ && _) = _
    rw [decide_eq_true ⟨by omega, by omega⟩, Bool.true_and]
  rw [hfl]
  refine dw_or1 (dt_not (dt_val ?_))
  walk_at "go"
  refine de_lc1 S (di_tup ?_) (by walk_at "dk")
  walk_at "go"
  refine ⟨_, rfl, ?_⟩
  refine lc_mapI (f := fun e => Da.bl (postD e).isSome) (by walk_at "wp") (by omega) (fun X1 S1 e he => ?_) ?_
  · refine dg_name S1 (by walk_at "dk") ⟨_, by walk_at "ss", fun X2 S2 => ?_⟩
    walk_at "go"
    exact ⟨e, rfl, hit e he, fun d hd => hd⟩
  walk_at "go"
  have eb : ds.map (fun e => Da.bl (postD e).isSome) = (ds.map fun e => (postD e).isSome).map Da.bl := by rw [List.map_map]; rfl
  rw [eb]
  have eall : (ds.map fun e => (postD e).isSome).all id = ds.all fun d => (postD d).isSome := by rw [List.all_map]; rfl
  refine bw_all S ⟨_, rfl, fun h3 => ?_, fun h3 => ?_⟩
  · have hno : (ds.all fun d => (postD d).isSome) = false := by rw [eall] at h3; simpa using h3
    walk_at "go"
    cases hc : chk none ds with
    | false => rfl
    | true => rw [chk_post hc] at hno; cases hno
  have hyes : (ds.all fun d => (postD d).isSome) = true := by rw [eall] at h3; simpa using h3
  refine db_nil ?_
  walk_at "go"
  refine de_lc1 S (di_zip S mz (by walk_at "dk") ?_) (by walk_at "dk")
  walk_at "go"
  refine ⟨1, rfl, .tup ?_⟩
  rw [cutL_from _ (by decide)]
  refine ⟨_, _, .inr ⟨rfl, rfl⟩, ?_⟩
  have ez : zipD ds (ds.drop ((1 : Int).toNat)) = (ds.zip (ds.drop 1)).map fun p => Da.tup [p.1, p.2] := rfl
  rw [ez]
  have post : ∀ e ∈ ds, ∃ c y, postD e = some c ∧ e = .tup [sg c, y] := fun e he => by
    obtain ⟨c, hc⟩ := Option.isSome_iff_exists.mp (List.all_eq_true.mp hyes e he)
    obtain ⟨y, hy, _⟩ := postD_some hc
    exact ⟨c, y, hc, hy⟩
  refine lc_map (f := fun p => Da.bl (decide ((postD p.1).getD 0 < (postD p.2).getD 0))) (by walk_at "wp") (by rw [List.length_zip]; omega) (fun X1 S1 p hp => ?_) ?_
  · obtain ⟨m1, m2⟩ := List.of_mem_zip (a := p.1) (b := p.2) hp
    obtain ⟨c1, y1, p1, e1⟩ := post p.1 m1
    obtain ⟨c2, y2, p2, e2⟩ := post p.2 (List.mem_of_mem_drop m2)
    refine dg_tup S1 (dgs_cons (dg_name S1 (by walk_at "dk") ⟨_, by walk_at "ss", dgs_cons (dg_name S1 (by walk_at "dk") ⟨_, by walk_at "ss", dgs_nil fun X2 S2 => ?_⟩)⟩))
    rw [p1, p2, e1, e2]
    walk_at "go"
    refine .tup (at0 _ _) ?_
    walk_at "go"
    refine .tup (at0 _ _) ?_
    refine .ltS ?_
    rw [letter_lt]
    rfl
  walk_at "go"
  have eb2 : (ds.zip (ds.drop 1)).map (fun p => Da.bl (decide ((postD p.1).getD 0 < (postD p.2).getD 0))) = ((ds.zip (ds.drop 1)).map fun p => decide ((postD p.1).getD 0 < (postD p.2).getD 0)).map Da.bl := by rw [List.map_map]; rfl
  rw [eb2]
  have eall2 : ((ds.zip (ds.drop 1)).map fun p => decide ((postD p.1).getD 0 < (postD p.2).getD 0)).all id = (ds.zip (ds.drop 1)).all fun p => decide ((postD p.1).getD 0 < (postD p.2).getD 0) := by rw [List.all_map]; rfl
  refine bw_all S ?_
  rw [eall2]
  cases ds with
  | nil => exact absurd g1 (by decide)
  | cons e es =>
    rw [List.all_cons] at hyes
    obtain ⟨c, y, hc, _⟩ := post e List.mem_cons_self
    have := zip_chk hc ((Bool.and_eq_true _ _).mp hyes).2
    rw [show (e :: es).drop 1 = es from rfl, this]
    conv => rhs; unfold chk
    rw [hc]
    rfl
theorem ok_areturns {f : Addr} {fd : FuncData} (F : Fun M.K "are_turns" "are_turns" s_are_turns f fd) (cC : CostsC M k) (mi : M.mg "isinstance" = none) (ms : M.mg "str" = none) (ml : M.mg "len" = none) (ma : M.mg "all" = none) :
    FnOk M.P M.w M.K M.mg M.base CX0 (k + 1) f fd ["floor", "thing", "most"] (SpD M.K [true, true, true] (fun p : Floor × Da × Nat => [encF p.1, p.2.1, .int (p.2.2 : Nat)]) (fun p => FloorOk p.1 ∧ RowAny p.2.1) (fun p y => y = .bl (turnsB p.1 p.2.2 p.2.1))) := by
  refine fn_ok F S_are_turns rfl fun X S ⟨fl, d, mo⟩ ⟨hf, hk, hx⟩ => ?_
  dsimp only at hf hk hx ⊢
  show DB X _ [some (.d (encF fl)), some (.d d), some (.d (.int (mo : Nat))), none] _ _ _ _
  walk_at "go"
  refine de_and ?_
  walk_at "go"
  refine bw_is hk (by decide) ⟨_, rfl, fun h1 => ?_, fun h1 => ?_⟩
  rotate_left
  · rw [turnsB_ns h1]
  obtain ⟨x, rfl⟩ := str_of h1 hk
  obtain ⟨hl, hc⟩ := hx x rfl
  rw [str_eta x] at hl hc ⊢
  generalize x.cps.toList = r at hl hc
  rw [len_tx] at hl
  have hc : ∀ c ∈ r, c < 128 := hc
  have hS : (tx r).length ≤ sizeLine := by rw [len_tx]; exact sl1 (by omega)
  show DM _ _ _ _ fun y => y = .bl (decide (r.length ≤ mo) && allIn fl r)
  refine de_and ?_
  walk_at "go"
  refine bw_lenS hS ?_
  rw [len_tx]
  walk_at "go"
  refine .le ⟨_, rfl, fun h2 => ?_, fun h2 => ?_⟩
  rotate_left
  · have h2 := of_decide_eq_false h2
    rw [decide_eq_false (by omega)]
    rfl
  have h2 := of_decide_eq_true h2
  rw [decide_eq_true (by omega), Bool.true_and]
  refine de_one ?_
  walk_at "go"
  refine de_lc1 S (di_str ?_) (by walk_at "dk")
  walk_at "go"
  refine ⟨_, rfl, ?_⟩
  rw [chars_tx]
  refine lc_map (f := fun c => Da.bl (decide (c ∈ turnsF fl))) (by walk_at "wp") (by omega) (fun X1 S1 c hcr => ?_) ?_
  · refine dg_name S1 (by walk_at "dk") ⟨_, by walk_at "ss", fun X2 S2 => ?_⟩
    walk_at "go"
    refine ⟨fl, rfl, hf, ?_⟩
    rintro _ ⟨kc, rfl, hkc⟩
    refine .inK (q := kC c) ?_
    by_cases h : c ∈ turnsF fl
    · rw [hkc.at_ c h, decide_eq_true h]
      rfl
    · rw [hkc.no (kC c) fun e he z => h (by rw [kC_inj z]; exact he), decide_eq_false h]
      rfl
  walk_at "go"
  have eb : r.map (fun c => Da.bl (decide (c ∈ turnsF fl))) = (r.map fun c => decide (c ∈ turnsF fl)).map Da.bl := by rw [List.map_map]; rfl
  rw [eb]
  refine bw_all S ?_
  rw [List.all_map]
  rfl
theorem ok_isrow {f : Addr} {fd : FuncData} (F : Fun M.K "is_row" "is_row" s_is_row f fd) (cA : AreC M k) (hM : GlI M "MOST_TURNS" 40) :
    FnOk M.P M.w M.K M.mg M.base CX0 (k + 1) f fd ["floor", "thing"] (SpD M.K [true, true] (fun p : Floor × Da => [encF p.1, p.2]) (fun p => FloorOk p.1 ∧ RowAny p.2) (fun p y => y = .bl (turnsB p.1 40 p.2))) := by
  refine fn_ok F S_is_row rfl fun X S ⟨fl, d⟩ ⟨hf, hx⟩ => ?_
  show DB X _ [some (.d (encF fl)), some (.d d)] _ _ _ _
  walk_at "go"
  exact ⟨(fl, d, 40), rfl, ⟨hf, hx⟩, fun d hd => hd⟩
end

abbrev LTightC (M : Md) (k : Nat) : Prop := Cal M k "_law_tight" [true] (fun r : List Nat => [.str (tx r)]) (fun r => Row r ∧ r.length ≤ 100000) (fun r d => d = .str (tx (tight r)))
section
variable {M : Md} {k : Nat}
theorem ok_ltight {f : Addr} {fd : FuncData} (F : Fun M.K "_law_tight" "_law_tight" s_ltight f fd) (cU : LUndoesC M k) (ml : M.mg "len" = none) (mm : M.mg "max" = none) :
    FnOk M.P M.w M.K M.mg M.base CX0 (k + 1) f fd ["_law_row_here"] (SpD M.K [true] (fun r : List Nat => [.str (tx r)]) (fun r => Row r ∧ r.length ≤ 100000) (fun r d => d = .str (tx (tight r)))) := by
  refine fn_ok F S_ltight rfl fun X S r0 ⟨hr0, hl0⟩ => ?_
  show DB X _ [some (.d (.str (tx r0))), none] _ _ _ _
  walk_at "go"
  refine ⟨_, by walk_at "ss", ?_⟩
  refine db_cons (ds_while S (fun m δ => ∃ (r : List Nat) (a : Nat), m = 2 * r.length - a ∧ δ = [some (.d (.str (tx r))), some (.d (.int a))] ∧ Row r ∧ r.length ≤ r0.length ∧ tight r = tight r0 ∧ RedS (r.take (a + 1))) ⟨_, r0, 0, rfl, rfl, hr0, Nat.le_refl _, rfl, ?_⟩ ?_)
  · cases r0 with
    | nil => trivial
    | cons x r => simp [RedS]
  rintro m δ ⟨r, a, rfl, rfl, hr, hl, ht, hp⟩
  have hS : ∀ l : List Nat, l.length ≤ 300000 → (tx l).length ≤ sizeLine := fun l hl => by rw [len_tx]; exact sl1 (by omega)
  walk_at "go"
  refine bw_lenS (hS r (by omega)) ?_
  rw [len_tx]
  refine .lt ⟨fun h => ?_, fun h => ?_⟩
  · have hlt : a + 1 < r.length := by have := of_decide_eq_true h; omega
    have e1 : r[a]? = some r[a] := List.getElem?_eq_getElem (by omega)
    have e2 : r[a + 1]? = some r[a + 1] := List.getElem?_eq_getElem hlt
    generalize r[a] = c at e1
    generalize r[a + 1] = d at e2
    have hc : IsT c := hr c (List.mem_of_getElem? e1)
    have hd : IsT d := hr d (List.mem_of_getElem? e2)
    walk_at "go"
    refine at_tx (X := X) (by omega) rfl e1 ?_
    walk_at "go"
    refine at_tx (X := X) (j := a + 1) (by omega) (by omega) e2 ?_
    walk_at "go"
    refine ⟨d, rfl, hd, ?_⟩
    rintro _ rfl
    refine .eqS rfl ⟨fun h => ?_, fun h => ?_⟩
    · have e : c = und d := by simpa using h
      walk_at "go"
      refine ⟨_, rfl, .str (hS r (by omega)) ?_⟩
      rw [cut_to r (by omega)]
      walk_at "go"
      refine ⟨_, rfl, .str (hS r (by omega)) ?_⟩
      rw [cut_from r (by omega)]
      walk_at "go"
      rotate_left
      · rw [len_tx, len_tx]; exact sl1 (by simp; omega)
      rw [app_tx]
      walk_at "go"
      refine bw_max S ?_
      walk_at "go"
      refine ⟨_, _, by walk_at "ss", by walk_at "ss", ?_⟩
      walk_at "go"
      have ha : adj r a = true := by unfold adj; rw [e1, e2]; simpa using e
      have e3 : (((a : Int) + 2).toNat) = a + 2 := by omega
      have e4 : ((a : Int)).toNat = a := by omega
      have hln : (r.take a ++ r.drop (a + 2)).length = r.length - 2 := by simp; omega
      have hspl : r = r.take a ++ c :: d :: r.drop (a + 2) := by
        rw [List.getElem?_eq_getElem (by omega)] at e1 e2
        rw [← Option.some.inj e1, ← Option.some.inj e2]
        rw [← List.drop_eq_getElem_cons (by omega), ← List.drop_eq_getElem_cons (by omega), List.take_append_drop]
      have hrt : Row (r.take a) := fun z hz => hr z (List.mem_of_mem_take hz)
      rw [e3, e4]
      have hmx : (if (a : Int) - 1 > 0 then (a : Int) - 1 else 0) = ((a - 1 : Nat) : Int) := by
        split <;> omega
      rw [hmx]
      refine ⟨_, ?_, r.take a ++ r.drop (a + 2), a - 1, rfl, rfl, ?_, ?_, ?_, ?_⟩
      · rw [hln]; omega
      · exact fun z hz => (List.mem_append.mp hz).elim (hrt z) fun z2 => hr z (List.mem_of_mem_drop z2)
      · omega
      · rw [← ht]
        have := tight_cut (b := r.drop (a + 2)) hrt hc hd e
        rw [← hspl] at this
        exact this.symm
      · by_cases h0 : a = 0
        · subst h0
          show RedS (List.take 1 _)
          generalize (List.take 0 r ++ List.drop (0 + 2) r) = z
          cases z with
          | nil => trivial
          | cons x z => simp [RedS]
        · rw [show a - 1 + 1 = a by omega, List.take_append_of_le_length (by simp; omega), List.take_take, Nat.min_self]
          have e5 : r.take (a + 1) = r.take a ++ [c] := by rw [List.take_add_one, e1]; rfl
          rw [e5] at hp
          clear hspl
          revert hp
          generalize r.take a = z
          intro hp
          have : ∀ z : List Nat, RedS (z ++ [c]) → RedS z := by
            intro z
            induction z with
            | nil => intro _; trivial
            | cons x z ih =>
              intro h
              cases z with
              | nil => trivial
              | cons y z => exact ⟨h.1, ih h.2⟩
          exact this z hp
    · have e : c ≠ und d := by simpa using h
      walk_at "go"
      refine ⟨_, by walk_at "ss", ?_⟩
      walk_at "go"
      refine ⟨2 * r.length - (a + 1), by omega, r, a + 1, rfl, by simp, hr, hl, ht, ?_⟩
      rw [List.take_add_one, e2]
      refine hp.app_one (fun z hz => hr z (List.mem_of_mem_take hz)) hd fun t ht' => ?_
      rw [List.take_add_one, e1] at ht'
      simp at ht'
      rw [← ht']
      exact e
  · have hge : r.length ≤ a + 1 := by have := of_decide_eq_false h; omega
    walk_at "go"
    rw [List.take_of_length_le hge] at hp
    rw [← ht, tight_of_red (red_rev hr hp)]
end

/-! ### halls -/
theorem th_floorH {fl : Floor} (hf : FloorOk fl) : Th 40 2 (encF fl) := by
  refine .tup (by rw [List.length_map]; have := hf.len; omega) fun d hd => ?_
  obtain ⟨p, hp, rfl⟩ := List.mem_map.mp hd
  have hb := hf.ok p hp
  refine .tup (by show 2 ≤ 40; decide) (all_cons (.str (fun c hc => by rw [List.mem_singleton.mp hc]; exact .inl ⟨hb.1, hb.2.1⟩) (by show 1 ≤ 40; decide)) (all_cons ?_ all_nil))
  cases hc : p.2 with
  | none => exact .non
  | some i =>
    have := hb.2.2 i hc
    exact .int (Nat.le_trans (show i.natAbs ≤ 100 by omega) (by decide +kernel))
theorem chk_enc : ∀ {fl : Floor} {b : Option Nat}, (fl.map (·.1)).Pairwise (· < ·) → (∀ p ∈ fl, 97 ≤ p.1 ∧ p.1 ≤ 122 ∧ CostOk p.2) → (∀ a, b = some a → ∀ p ∈ fl, a < p.1) → chk b (fl.map fun p => Da.tup [sg p.1, encO p.2]) = true
  | [], _, _, _, _ => rfl
  | p :: fl, b, h1, h2, h3 => by
    obtain ⟨a1, a2, a3⟩ := h2 p List.mem_cons_self
    have e : postD (Da.tup [sg p.1, encO p.2]) = some p.1 := by
      show postD (.tup [.str (tx [p.1]), encO p.2]) = _
      rw [postD_sg, if_pos]
      refine ⟨⟨a1, a2⟩, ?_⟩
      cases hc : p.2 with
      | none => rfl
      | some i =>
        have := a3 i hc
        show (_ || decide (1 ≤ i ∧ i ≤ 100)) = true
        rw [decide_eq_true this, Bool.or_true]
    rw [List.map_cons, List.pairwise_cons] at h1
    rw [List.map_cons]
    unfold chk
    rw [e]
    have e2 : ltO b p.1 = true := by
      cases b with
      | none => rfl
      | some a => exact decide_eq_true (h3 a rfl p List.mem_cons_self)
    show (ltO b p.1 && chk (some p.1) _) = true
    rw [e2, Bool.true_and]
    exact chk_enc h1.2 (fun q hq => h2 q (List.mem_cons_of_mem _ hq)) fun a ea q hq => by
      cases ea
      exact h1.1 q.1 (List.mem_map.mpr ⟨q, hq, rfl⟩)
theorem floorB_enc {fl : Floor} (hf : FloorOk fl) : floorB (encF fl) = true := by
  show (decide _ && chk none _) = true
  rw [chk_enc hf.asc hf.ok (fun a e => by cases e), Bool.and_true]
  have h1 := hf.pos
  have h2 := hf.len
  exact decide_eq_true (by rw [List.length_map]; exact ⟨h1, h2⟩)
/-- the cords by their names -/
abbrev Cords := List (Str × List Nat)
def tk (ks : Cords) : List (Str × Str) := ks.map fun e => (e.1, tx e.2)
def nowD (q : Cords × Int) : Da := .tup [.dk ((tk q.1).map entX), .int q.2]
/-- what a hall holds -/
structure Hal where
  fl : Floor
  now : Cords × Int
  fm : List (Cords × Int)
abbrev hst (C : Addr) (p : Addr × Addr × Hal) : HSt := ⟨p.1, p.2.1, C, encF p.2.2.fl, nowD p.2.2.now, p.2.2.fm.map nowD⟩
def rowAt (ks : Cords) (n : Str) : Option (List Nat) := (ks.find? fun e => decide (e.1 = n)).map (·.2)
structure HalOk (h : Hal) : Prop where
  fl : FloorOk h.fl
  nd : (h.now.1.map (·.1)).Nodup
  len : h.now.1.length ≤ 6
  fm : h.fm.length < 900000
theorem valV_tk (n : Str) : ∀ ks : Cords, valV ((tk ks).map entX) (Sum.inr n) = (rowAt ks n).map fun r => V.str (tx r)
  | [] => rfl
  | e :: ks => by
    have ih := valV_tk n ks
    show valV (entX (e.1, tx e.2) :: (tk ks).map entX) (Sum.inr n) = _
    by_cases h : e.1 = n
    · rw [valV_pos (by show (Sum.inr e.1 : Key) = _; rw [h])]
      unfold rowAt
      rw [List.find?_cons, decide_eq_true h]
      rfl
    · rw [valV_neg (fun z => h (Sum.inr.inj z)), ih]
      unfold rowAt
      rw [List.find?_cons, decide_eq_false h]
def keepL (ks : Cords) (n : Str) (r : List Nat) : Cords := ks.filter (fun e => decide (e.1 ≠ n)) ++ [(n, r)]
theorem rowAt_keep {ks : Cords} {n m : Str} {r : List Nat} : rowAt (keepL ks n r) m = if m = n then some r else rowAt ks m := by
  unfold rowAt keepL
  rw [List.find?_append, List.find?_filter]
  by_cases h : m = n
  · subst h
    rw [if_pos rfl]
    have e : (ks.find? fun a => decide (decide (a.1 ≠ m) = true ∧ decide (a.1 = m) = true)) = none := List.find?_eq_none.mpr fun x _ => by simp
    rw [e]
    simp
  · rw [if_neg h]
    have e : (ks.find? fun a => decide (decide (a.1 ≠ n) = true ∧ decide (a.1 = m) = true)) = ks.find? fun a => decide (a.1 = m) := by
      congr 1
      funext a
      refine decide_eq_decide.mpr ⟨fun z => of_decide_eq_true z.2, fun z => ⟨decide_eq_true (by rw [z]; exact h), decide_eq_true z⟩⟩
    rw [e]
    cases hf : ks.find? fun a => decide (a.1 = m) with
    | some x => rfl
    | none =>
      show Option.map _ (none.or (List.find? _ [(n, r)])) = _
      rw [List.find?_cons, decide_eq_false (fun z => h z.symm)]
      rfl
theorem keep_nd {ks : Cords} {n : Str} {r : List Nat} (h : (ks.map (·.1)).Nodup) : ((keepL ks n r).map (·.1)).Nodup := by
  unfold keepL
  rw [List.map_append]
  refine List.nodup_append.mpr ⟨(List.filter_sublist.map _).nodup h, by simp, fun a ha b hb => ?_⟩
  obtain ⟨e, he, rfl⟩ := List.mem_map.mp ha
  have h1 := of_decide_eq_true (List.mem_filter.mp he).2
  have : b = n := by simpa using hb
  rw [this]
  exact h1
theorem keep_len_old {ks : Cords} {n : Str} {r q : List Nat} (h : rowAt ks n = some q) : (keepL ks n r).length ≤ ks.length := by
  unfold keepL
  rw [List.length_append, List.length_singleton]
  unfold rowAt at h
  cases hf : ks.find? fun e => decide (e.1 = n) with
  | none => rw [hf] at h; cases h
  | some x =>
    have hm := List.mem_of_find?_eq_some hf
    have hx0 := List.find?_some hf
    have hx : x.1 = n := of_decide_eq_true hx0
    have : (ks.filter fun e => decide (e.1 ≠ n)).length < ks.length := List.length_filter_lt_length_iff_exists.mpr ⟨x, hm, by simp [hx]⟩
    omega
theorem keep_len_new {ks : Cords} {n : Str} {r : List Nat} : (keepL ks n r).length ≤ ks.length + 1 := by
  unfold keepL
  rw [List.length_append, List.length_singleton]
  have := List.length_filter_le (fun e : Str × List Nat => decide (e.1 ≠ n)) ks
  omega
def Hal.kept (h : Hal) (n : Str) (r : List Nat) (c : Int) : Hal := ⟨h.fl, (keepL h.now.1 n r, h.now.2 + c), h.fm ++ [h.now]⟩
section
variable {M : Md} {X : Cx} {k : Nat} {N : List Str} {sc cs : Scope} {δ : Sg} {m : Bool} {Φ : Da → Prop} {x f : Str} {pos p2 p3 apos : Pos} {e : Expr} {es : List Expr} {s s0 : HSt} {sts : List Stmt} {nx : Sg → Prop} {rt : Sg → Da → Prop}
theorem de_mQ {α : Type} {ms : List Bool} {args : α → List Da} {st : α → HSt} {pre : α → Prop} {post : α → Da → Prop} {pl : Sem Bool} (S : Sc M X k N sc cs) (hs : Gt N δ x (.hb s)) (hv : visB sc x = true) (hf : offH f = true) (hk : HallK M.K s.C) (c : CalQ M k s.C f ms args st pre post)
    (h : DA X ms (e :: es) δ fun ds => ∃ z, ds = args z ∧ st z = s ∧ pre z ∧ ∀ d, post z d → Φ d)
    (he : starEach (e :: es) X.env = (false, eval e X.env) :: starEach es X.env := by rfl) (hpl : (backTo pos (starEach es X.env)).any (·.1) = false := by rfl)
    (ht : eval (.Call (.Attribute (.Name x p2) f apos) (e :: es) [] pos) X.env = (do
      let ov ← eval (.Name x p2) X.env
      standAt apos.atName
      let (f, first) ← holding [ov] (getMethod ov f pl)
      callWith pos f first (backTo pos (starEach (e :: es) X.env)) (backToKw pos (keywordEach [] X.env))) := by rfl) :
    DM X m (.Call (.Attribute (.Name x p2) f apos) (e :: es) [] pos) δ Φ := de_methQ S hk c hs hv hf h he hpl ht
theorem de_mQ0 {α : Type} {args : α → List Da} {st : α → HSt} {pre : α → Prop} {post : α → Da → Prop} {pl : Sem Bool} (S : Sc M X k N sc cs) (hs : Gt N δ x (.hb s)) (hv : visB sc x = true) (hf : offH f = true) (hk : HallK M.K s.C) (c : CalQ M k s.C f [] args st pre post)
    (h : ∃ z, [] = args z ∧ st z = s ∧ pre z ∧ ∀ d, post z d → Φ d)
    (ht : eval (.Call (.Attribute (.Name x p2) f apos) [] [] pos) X.env = (do
      let ov ← eval (.Name x p2) X.env
      standAt apos.atName
      let (f, first) ← holding [ov] (getMethod ov f pl)
      callWith pos f first (backTo pos (starEach [] X.env)) (backToKw pos (keywordEach [] X.env))) := by rfl) :
    DM X m (.Call (.Attribute (.Name x p2) f apos) [] [] pos) δ Φ := de_methQ0 S hk c hs hv hf h ht
theorem dbm_m {α : Type} {ms : List Bool} {args : α → List Da} {st : α → HSt} {pre : α → Prop} {post : α → Da → HSt → Prop} {pl : Sem Bool} (S : Sc M X k N sc cs) (hs : Gt N δ x (.hb s)) (hv : visB sc x = true) (hf : offH f = true) (hk : HallK M.K s.C) (c : CalM M k s.C f ms args st pre post)
    (h0 : s.a = s0.a) (h0' : s.la = s0.la) (hp : ∀ i : Nat, N[i]? = some x → plainM i δ = true)
    (h : DA X ms (e :: es) δ fun ds => ∃ z, ds = args z ∧ st z = s ∧ pre z ∧ ∀ d s', s'.a = s.a → s'.la = s.la → s'.C = s.C → post z d s' → ∃ δ', Ss N δ x (some (.hb s')) δ' ∧ DBm X s0 sts δ' nx rt)
    (he : starEach (e :: es) X.env = (false, eval e X.env) :: starEach es X.env := by rfl) (hpl : (backTo p3 (starEach es X.env)).any (·.1) = false := by rfl)
    (ht : eval (.Call (.Attribute (.Name x p2) f apos) (e :: es) [] p3) X.env = (do
      let ov ← eval (.Name x p2) X.env
      standAt apos.atName
      let (f, first) ← holding [ov] (getMethod ov f pl)
      callWith p3 f first (backTo p3 (starEach (e :: es) X.env)) (backToKw p3 (keywordEach [] X.env))) := by rfl) :
    DBm X s0 (.Expr (.Call (.Attribute (.Name x p2) f apos) (e :: es) [] p3) pos :: sts) δ nx rt := dbm_meth S hk c hs hv hf h0 h0' h hp he hpl ht
theorem dbm_app {p4 : Pos} (S : Sc M X k N sc cs) (hs : Gt N δ x (.hb s)) (hk : HallK M.K s.C) (hv : visB sc x = true) (h0 : s.a = s0.a) (h0' : s.la = s0.la) (hz : s.l3.length < 1000000) (hp : ∀ i : Nat, N[i]? = some x → plainM i δ = true)
    (h : DE X e δ fun d => ∃ δ', Ss N δ x (some (.hb { s with l3 := s.l3 ++ [d] })) δ' ∧ DBm X s0 sts δ' nx rt)
    (hb : attributeBase (.Name x p2) "former" X.env (eval (.Name x p2) X.env) = eval (.Name x p2) X.env := by rfl)
    (hb2 : attributeBase (.Attribute (.Name x p2) "former" p4) "append" X.env (eval (.Attribute (.Name x p2) "former" p4) X.env) = eval (.Attribute (.Name x p2) "former" p4) X.env := by rfl)
    (hfew : ((backTo p3 (starEach [e] X.env)).all (fun x => !x.1) && (backToKw p3 (keywordEach [] X.env)).all (fun x => x.1.isSome)
      && decide ([e].length + ([] : List Keyword).length + (if ([] : List Keyword).isEmpty then 0 else 1) < 30)) = true := by rfl)
    (hline : (apos.endLine == p3.line) = true := by rfl) (hst : starEach [e] X.env = (false, eval e X.env) :: starEach [] X.env := by rfl) :
    DBm X s0 (.Expr (.Call (.Attribute (.Attribute (.Name x p2) "former" p4) "append" apos) [e] [] p3) pos :: sts) δ nx rt := dbm_append S hk hs hv h0 h0' hz h hp hb hb2 hfew hline hst
theorem dbm_set (S : Sc M X k N sc cs) (hs : Gt N δ x (.hb s)) (hk : HallK M.K s.C) (hv : visB sc x = true) (h0 : s.a = s0.a) (h0' : s.la = s0.la) (hp : ∀ i : Nat, N[i]? = some x → plainM i δ = true)
    (h : DE X e δ fun d => ∃ δ', Ss N δ x (some (.hb { s with d2 := d })) δ' ∧ DBm X s0 sts δ' nx rt)
    (hsw : swapsWith e (some (.Attribute (.Name x p2) "now" p3)) pos.line X.env = pure false := by rfl) :
    DBm X s0 (.Assign [.Attribute (.Name x p2) "now" p3] e pos :: sts) δ nx rt := dbm_setN S hk hs hv h0 h0' h hp hsw
end

local macro_rules | `(tactic| walk_at "stE") => `(tactic| first
  | (show DM _ _ (.Attribute _ _ _) _ _; first | refine de_fldG ‹Sc _ _ _ _ _ _› (by walk_at "gt") (by walk_at "dk") ‹HallK _ _› ?_ | refine de_fldN ‹Sc _ _ _ _ _ _› (by walk_at "gt") (by walk_at "dk") ‹HallK _ _› ?_)
  | (show DM _ _ (.Call (.Attribute _ _ _) (_ :: _) _ _) _ _; refine de_mQ ‹Sc _ _ _ _ _ _› (by walk_at "gt") (by walk_at "dk") rfl ‹HallK _ _› (by assumption) ?_)
  | (show DM _ _ (.Call (.Attribute _ _ _) [] _ _) _ _; refine de_mQ0 ‹Sc _ _ _ _ _ _› (by walk_at "gt") (by walk_at "dk") rfl ‹HallK _ _› (by assumption) ?_))

section
variable {M : Md} {k : Nat} {C : Addr}
abbrev HLenC (M : Md) (k : Nat) (C : Addr) : Prop := CalQ M k C "__len__" [] (fun _ : Addr × Addr × Hal => []) (hst C) (fun p => HalOk p.2.2) (fun p d => d = .int (p.2.2.now.1.length : Nat))
abbrev CordA (p : (Addr × Addr × Hal) × Str × List Nat) : List Da := [.str p.2.1]
abbrev CordC (M : Md) (k : Nat) (C : Addr) : Prop := CalQ M k C "cord" [true] CordA (fun p => hst C p.1) (fun p => HalOk p.1.2.2 ∧ rowAt p.1.2.2.now.1 p.2.1 = some p.2.2) (fun p d => d = .str (tx p.2.2))
abbrev ShortC (M : Md) (k : Nat) (C : Addr) : Prop := CalQ M k C "short" [true] (fun p : (Addr × Addr × Hal) × List Nat => [.str (tx p.2)]) (fun p => hst C p.1) (fun p => Row p.2 ∧ p.2.length ≤ 1000 ∧ (tight p.2).length ≤ 40) (fun p d => d = .str (tx (tight p.2)))
abbrev PriceC (M : Md) (k : Nat) (C : Addr) : Prop := CalQ M k C "price" [true] (fun p : (Addr × Addr × Hal) × Nat × Int => [.str (tx [p.2.1])]) (fun p => hst C p.1) (fun p => FloorOk p.1.2.2.fl ∧ p.2.1 ∈ turnsF p.1.2.2.fl ∧ wF p.1.2.2.fl p.2.1 = some p.2.2) (fun p d => d = .int p.2.2)
abbrev NeedC (M : Md) (k : Nat) (C : Addr) : Prop := CalQ M k C "need_row" [true] (fun p : (Addr × Addr × Hal) × List Nat => [.str (tx p.2)]) (fun p => hst C p.1) (fun p => FloorOk p.1.2.2.fl ∧ RowOf p.1.2.2.fl p.2 ∧ p.2.length ≤ 40) (fun _ _ => True)
abbrev PaidC (M : Md) (k : Nat) (C : Addr) : Prop := CalQ M k C "paid" [] (fun _ : Addr × Addr × Hal => []) (hst C) (fun _ => True) (fun p d => d = .int p.2.2.now.2)
abbrev LeftC (M : Md) (k : Nat) (C : Addr) : Prop := CalQ M k C "left" [true] CordA (fun p => hst C p.1) (fun p => HalOk p.1.2.2 ∧ rowAt p.1.2.2.now.1 p.2.1 = some p.2.2 ∧ RowOf p.1.2.2.fl p.2.2 ∧ p.2.2.length ≤ 40) (fun p d => d = encO (L (wF p.1.2.2.fl) p.2.2))
abbrev ApartC (M : Md) (k : Nat) (C : Addr) : Prop := CalQ M k C "apart" [true, true] (fun p : (Addr × Addr × Hal) × (Str × List Nat) × Str × List Nat => [.str p.2.1.1, .str p.2.2.1]) (fun p => hst C p.1)
  (fun p => HalOk p.1.2.2 ∧ (rowAt p.1.2.2.now.1 p.2.1.1 = some p.2.1.2 ∧ RowOf p.1.2.2.fl p.2.1.2 ∧ p.2.1.2.length ≤ 20) ∧ rowAt p.1.2.2.now.1 p.2.2.1 = some p.2.2.2 ∧ RowOf p.1.2.2.fl p.2.2.2 ∧ p.2.2.2.length ≤ 20) (fun p d => d = encO (L (wF p.1.2.2.fl) (back p.2.1.2 ++ p.2.2.2)))
abbrev CordsC (M : Md) (k : Nat) (C : Addr) : Prop := CalQ M k C "cords" [] (fun _ : Addr × Addr × Hal => []) (hst C) (fun p => HalOk p.2.2) (fun p d => ∃ qs : Cords, qs.Perm p.2.2.now.1 ∧ d = .lst ((tk qs).map pairD))
theorem tk_fn {ks : Cords} (nd : (ks.map (·.1)).Nodup) : ∀ e ∈ tk ks, ∀ f ∈ tk ks, e.1 = f.1 → e.2 = f.2 := by
  intro e he f hf h
  obtain ⟨x, hx, rfl⟩ := List.mem_map.mp he
  obtain ⟨y, hy, rfl⟩ := List.mem_map.mp hf
  obtain ⟨i, hi⟩ := List.mem_iff_getElem?.mp hx
  obtain ⟨j, hj⟩ := List.mem_iff_getElem?.mp hy
  have e1 : (ks.map (·.1))[i]? = some x.1 := by rw [List.getElem?_map, hi]; rfl
  have e2 : (ks.map (·.1))[j]? = some x.1 := by rw [List.getElem?_map, hj]; exact congrArg some h.symm
  have eij := (List.getElem?_inj (List.getElem?_eq_some_iff.mp e1).1 nd).mp (e1.trans e2.symm)
  rw [eij, hj] at hi
  rw [Option.some.inj hi]
theorem row_128 {r : List Nat} (h : Row r) {c : Nat} (hc : c ∈ r) : c < 128 := by
  have := h c hc
  unfold IsT at this
  omega
theorem turnsB_row {fl : Floor} {m : Nat} {r : List Nat} (h : RowOf fl r) (hl : r.length ≤ m) : turnsB fl m (.str (tx r)) = true := by
  show (decide (r.length ≤ m) && allIn fl r) = true
  rw [decide_eq_true hl, Bool.true_and]
  exact List.all_eq_true.mpr fun c hc => decide_eq_true (h c hc)
theorem at1 {α : Type} (x y : α) (l : List α) : atI (x :: y :: l) 1 = some y := by
  unfold atI ixN
  rw [if_pos (by omega), if_pos (by simp only [List.length_cons]; omega)]
  rfl
theorem ok_hlen {f : Addr} {fd : FuncData} (F : Fun M.K "__len__" "Hall.__len__" s_Hall___len__ f fd) (hk : HallK M.K C) (ml : M.mg "len" = none) :
    FnOk M.P M.w M.K M.mg M.base CX0 (k + 1) f fd ["self"] (SpQ M.K [] (fun _ : Addr × Addr × Hal => []) (hst C) (fun p => HalOk p.2.2) (fun p d => d = .int (p.2.2.now.1.length : Nat))) := by
  refine fnq_ok F S_Hall___len__ rfl fun X S ⟨a, la, h⟩ ho => ?_
  show DB X _ [some (.hb (hst C (a, la, h)))] _ _ _ _
  walk_at "go"
  refine .tup (at0 _ _) ?_
  walk_at "go"
  refine bw_lenK ?_
  show Da.int _ = Da.int _
  rw [List.length_map]
  unfold tk
  rw [List.length_map]
theorem ok_cord {f : Addr} {fd : FuncData} (F : Fun M.K "cord" "Hall.cord" s_Hall_cord f fd) (hk : HallK M.K C) (mi : M.mg "isinstance" = none) (ms : M.mg "str" = none) :
    FnOk M.P M.w M.K M.mg M.base CX0 (k + 1) f fd ["self", "name"] (SpQ M.K [true] CordA (fun p => hst C p.1) (fun p => HalOk p.1.2.2 ∧ rowAt p.1.2.2.now.1 p.2.1 = some p.2.2) (fun p d => d = .str (tx p.2.2))) := by
  refine fnq_ok F S_Hall_cord rfl fun X S ⟨⟨a, la, h⟩, n, r⟩ ⟨ho, hr⟩ => ?_
  dsimp only at ho hr
  show DB X _ [some (.hb (hst C (a, la, h))), some (.d (.str n))] _ _ _ _
  have hv := valV_tk n h.now.1
  rw [hr] at hv
  refine db_cons (ds_if ?_)
  refine dt_w (dw_or (dt_not (dt_val ?_)))
  walk_at "go"
  refine bw_isi (T := "str") (r := true) trivial (by show kitB "str" "str" = _; decide) ⟨_, rfl, spF ?_⟩
  walk_at "go"
  refine .tup (at0 _ _) ?_
  refine .notInK (q := Sum.inr n) ?_
  rw [hv]
  refine spF ?_
  walk_at "go"
  refine .tup (at0 _ _) ?_
  walk_at "go"
  refine .dk (q := Sum.inr n) rfl hv ?_
  rfl
theorem ok_short {f : Addr} {fd : FuncData} (F : Fun M.K "short" "Hall.short" s_Hall_short f fd) (hk : HallK M.K C) (cT : TightC M k) (ml : M.mg "len" = none) (hM : GlI M "MOST_TURNS" 40) :
    FnOk M.P M.w M.K M.mg M.base CX0 (k + 1) f fd ["self", "row"] (SpQ M.K [true] (fun p : (Addr × Addr × Hal) × List Nat => [.str (tx p.2)]) (fun p => hst C p.1) (fun p => Row p.2 ∧ p.2.length ≤ 1000 ∧ (tight p.2).length ≤ 40) (fun p d => d = .str (tx (tight p.2)))) := by
  refine fnq_ok F S_Hall_short rfl fun X S ⟨⟨a, la, h⟩, r⟩ ⟨hr, hl, hl2⟩ => ?_
  dsimp only at hr hl hl2 ⊢
  show DB X _ [some (.hb (hst C (a, la, h))), some (.d (.str (tx r))), none] _ _ _ _
  walk_at "go"
  refine ⟨r, rfl, ⟨hr, by omega⟩, ?_⟩
  rintro _ rfl
  refine ⟨_, by walk_at "ss", ?_⟩
  walk_at "go"
  refine bw_lenS (by rw [len_tx]; exact sl1 (by omega)) ?_
  rw [len_tx]
  walk_at "go"
  refine .gt ?_
  rw [decide_eq_false (by omega)]
  refine spF ?_
  walk_at "go"
  rfl
theorem ok_price {f : Addr} {fd : FuncData} (F : Fun M.K "price" "Hall.price" s_Hall_price f fd) (hk : HallK M.K C) (cC : CostsC M k) :
    FnOk M.P M.w M.K M.mg M.base CX0 (k + 1) f fd ["self", "turn"] (SpQ M.K [true] (fun p : (Addr × Addr × Hal) × Nat × Int => [.str (tx [p.2.1])]) (fun p => hst C p.1) (fun p => FloorOk p.1.2.2.fl ∧ p.2.1 ∈ turnsF p.1.2.2.fl ∧ wF p.1.2.2.fl p.2.1 = some p.2.2) (fun p d => d = .int p.2.2)) := by
  refine fnq_ok F S_Hall_price rfl fun X S ⟨⟨a, la, h⟩, c, n⟩ ⟨hf, hc, hn⟩ => ?_
  dsimp only at hf hc hn ⊢
  show DB X _ [some (.hb (hst C (a, la, h))), some (.d (.str (tx [c]))), none] _ _ _ _
  walk_at "go"
  refine ⟨h.fl, rfl, hf, ?_⟩
  rintro _ ⟨kc, rfl, hkc⟩
  walk_at "go"
  refine .dk (q := kC c) rfl (hkc.at_ c hc) ?_
  rw [hn]
  refine ⟨_, by walk_at "ss", ?_⟩
  walk_at "go"
  refine .isN ?_
  refine spF ?_
  walk_at "go"
  rfl
theorem ok_need {f : Addr} {fd : FuncData} (F : Fun M.K "need_row" "Hall.need_row" s_Hall_need_row f fd) (hk : HallK M.K C) (cR : IsRowC M k) :
    FnOk M.P M.w M.K M.mg M.base CX0 (k + 1) f fd ["self", "row"] (SpQ M.K [true] (fun p : (Addr × Addr × Hal) × List Nat => [.str (tx p.2)]) (fun p => hst C p.1) (fun p => FloorOk p.1.2.2.fl ∧ RowOf p.1.2.2.fl p.2 ∧ p.2.length ≤ 40) (fun _ _ => True)) := by
  refine fnq_ok F S_Hall_need_row rfl fun X S ⟨⟨a, la, h⟩, r⟩ ⟨hf, hr, hl⟩ => ?_
  dsimp only at hf hr hl ⊢
  show DB X _ [some (.hb (hst C (a, la, h))), some (.d (.str (tx r)))] _ _ _ _
  refine db_cons (ds_if (dt_not (dt_val ?_)))
  walk_at "go"
  refine ⟨(h.fl, .str (tx r)), rfl, ⟨hf, ⟨trivial, fun x e => by cases e; exact ⟨by rw [len_tx]; omega, fun c hc => row_128 (hr.row hf) hc⟩⟩⟩, ?_⟩
  rintro _ rfl
  have hb : turnsB h.fl 40 (.str (tx r)) = true := turnsB_row hr hl
  refine ⟨_, rfl, ?_⟩
  dsimp only
  rw [hb]
  refine spF ?_
  walk_at "go"
  trivial
theorem ok_paid {f : Addr} {fd : FuncData} (F : Fun M.K "paid" "Hall.paid" s_Hall_paid f fd) (hk : HallK M.K C) :
    FnOk M.P M.w M.K M.mg M.base CX0 (k + 1) f fd ["self"] (SpQ M.K [] (fun _ : Addr × Addr × Hal => []) (hst C) (fun _ => True) (fun p d => d = .int p.2.2.now.2)) := by
  refine fnq_ok F S_Hall_paid rfl fun X S ⟨a, la, h⟩ _ => ?_
  show DB X _ [some (.hb (hst C (a, la, h)))] _ _ _ _
  walk_at "go"
  refine .tup (at1 _ _ _) ?_
  rfl
theorem ok_left {f : Addr} {fd : FuncData} (F : Fun M.K "left" "Hall.left" s_Hall_left f fd) (hk : HallK M.K C) (cL : LeastC M k) (cC : CordC M k C) :
    FnOk M.P M.w M.K M.mg M.base CX0 (k + 1) f fd ["self", "name"] (SpQ M.K [true] CordA (fun p => hst C p.1) (fun p => HalOk p.1.2.2 ∧ rowAt p.1.2.2.now.1 p.2.1 = some p.2.2 ∧ RowOf p.1.2.2.fl p.2.2 ∧ p.2.2.length ≤ 40) (fun p d => d = encO (L (wF p.1.2.2.fl) p.2.2))) := by
  refine fnq_ok F S_Hall_left rfl fun X S ⟨⟨a, la, h⟩, n, r⟩ ⟨ho, hr, hro, hl⟩ => ?_
  dsimp only at ho hr hro hl ⊢
  show DB X _ [some (.hb (hst C (a, la, h))), some (.d (.str n))] _ _ _ _
  walk_at "go"
  refine ⟨((a, la, h), n, r), rfl, rfl, ⟨ho, hr⟩, ?_⟩
  rintro _ rfl
  walk_at "go"
  refine ⟨(h.fl, r), rfl, ⟨ho.fl, hro, by show r.length ≤ 300; omega⟩, ?_⟩
  rintro _ rfl
  rfl
theorem ok_apart {f : Addr} {fd : FuncData} (F : Fun M.K "apart" "Hall.apart" s_Hall_apart f fd) (hk : HallK M.K C) (cB : BetwC M k) (cC : CordC M k C) (ml : M.mg "len" = none) (mm : M.mg "max" = none) (hM : GlI M "MOST_APART" 20) :
    FnOk M.P M.w M.K M.mg M.base CX0 (k + 1) f fd ["self", "name", "other"] (SpQ M.K [true, true] (fun p : (Addr × Addr × Hal) × (Str × List Nat) × Str × List Nat => [.str p.2.1.1, .str p.2.2.1]) (fun p => hst C p.1)
  (fun p => HalOk p.1.2.2 ∧ (rowAt p.1.2.2.now.1 p.2.1.1 = some p.2.1.2 ∧ RowOf p.1.2.2.fl p.2.1.2 ∧ p.2.1.2.length ≤ 20) ∧ rowAt p.1.2.2.now.1 p.2.2.1 = some p.2.2.2 ∧ RowOf p.1.2.2.fl p.2.2.2 ∧ p.2.2.2.length ≤ 20) (fun p d => d = encO (L (wF p.1.2.2.fl) (back p.2.1.2 ++ p.2.2.2)))) := by
  refine fnq_ok F S_Hall_apart rfl fun X S ⟨⟨a, la, h⟩, ⟨n, r⟩, m, o⟩ ⟨ho, ⟨hr, hro, hl⟩, hr2, hro2, hl2⟩ => ?_
  dsimp only at ho hr hro hl hr2 hro2 hl2 ⊢
  show DB X _ [some (.hb (hst C (a, la, h))), some (.d (.str n)), some (.d (.str m)), none, none] _ _ _ _
  walk_at "go"
  refine ⟨((a, la, h), n, r), rfl, rfl, ⟨ho, hr⟩, ?_⟩
  rintro _ rfl
  walk_at "go"
  refine ⟨((a, la, h), m, o), rfl, rfl, ⟨ho, hr2⟩, ?_⟩
  rintro _ rfl
  refine ⟨_, _, by walk_at "ss", by walk_at "ss", ?_⟩
  show DB X _ [some (.hb (hst C (a, la, h))), some (.d (.str n)), some (.d (.str m)), some (.d (.str (tx r))), some (.d (.str (tx o)))] _ _ _ _
  walk_at "go"
  refine bw_lenS (by rw [len_tx]; exact sl1 (by omega)) ?_
  rw [len_tx]
  walk_at "go"
  refine bw_lenS (by rw [len_tx]; exact sl1 (by omega)) ?_
  rw [len_tx]
  walk_at "go"
  refine bw_max S ?_
  walk_at "go"
  refine .gt ?_
  rw [decide_eq_false (by split <;> omega)]
  refine spF ?_
  walk_at "go"
  refine ⟨(h.fl, r, o), rfl, ⟨ho.fl, hro, hro2, by show r.length + o.length ≤ 300; omega⟩, ?_⟩
  rintro _ rfl
  rfl
theorem ok_cords {f : Addr} {fd : FuncData} (F : Fun M.K "cords" "Hall.cords" s_Hall_cords f fd) (hk : HallK M.K C) (msd : M.mg "sorted" = none) :
    FnOk M.P M.w M.K M.mg M.base CX0 (k + 1) f fd ["self"] (SpQ M.K [] (fun _ : Addr × Addr × Hal => []) (hst C) (fun p => HalOk p.2.2) (fun p d => ∃ qs : Cords, qs.Perm p.2.2.now.1 ∧ d = .lst ((tk qs).map pairD))) := by
  refine fnq_ok F S_Hall_cords rfl fun X S ⟨a, la, h⟩ ho => ?_
  dsimp only at ho ⊢
  show DB X _ [some (.hb (hst C (a, la, h)))] _ _ _ _
  refine db_cons (ds_ret (de_sortedItems S msd (by walk_at "dk") ?_))
  walk_at "go"
  refine .tup (at0 _ _) ?_
  have hl := ho.len
  refine ⟨tk h.now.1, rfl, by unfold tk; rw [List.length_map]; omega, tk_fn ho.nd, fun qs hq => ?_⟩
  obtain ⟨ps, h1, h2⟩ := perm_lift (fun e : Str × List Nat => (e.1, tx e.2)) hq h.now.1 rfl
  exact ⟨ps, h1, by unfold tk; rw [h2]⟩
end

/-! ### what changes a hall -/
theorem putK_new {acc : List (Key × V)} {q : Key} {v : V} (h : valV acc q = none) : putK acc q v = acc ++ [(q, v)] := by
  unfold putK
  rw [valV_any, h]
  rfl
theorem valV_no {n : Str} : ∀ {l : List (Str × Str)}, (∀ x ∈ l, x.1 ≠ n) → valV (l.map entX) (Sum.inr n) = none
  | [], _ => rfl
  | x :: l, h => by
    rw [List.map_cons, valV_neg (fun z => h x List.mem_cons_self (Sum.inr.inj z))]
    exact valV_no fun y hy => h y (List.mem_cons_of_mem _ hy)
theorem tk_keep {ks : Cords} {n : Str} {r : List Nat} : putK (((tk ks).filter fun e => decide (e.1 ≠ n)).map entX) (Sum.inr n) (.str (tx r)) = (tk (keepL ks n r)).map entX := by
  rw [putK_new (valV_no fun x hx => of_decide_eq_true (List.mem_filter.mp hx).2)]
  unfold keepL tk
  rw [List.map_append, List.map_append, List.filter_map]
  rfl
theorem take_snoc {α : Type} {l : List α} {i : Nat} {x : α} (h : l[i]? = some x) : l.take (i + 1) = l.take i ++ [x] := by
  rw [List.take_succ, h]
  rfl
theorem take_ne {l : List (Str × Str)} {i : Nat} {e : Str × Str} (nd : (l.map (·.1)).Nodup) (h : l[i]? = some e) : ∀ x ∈ l.take i, x.1 ≠ e.1 := by
  intro x hx z
  obtain ⟨j, hj⟩ := List.mem_iff_getElem?.mp hx
  obtain ⟨hj1, _⟩ := List.getElem?_eq_some_iff.mp hj
  rw [List.length_take] at hj1
  rw [List.getElem?_take_of_lt (by omega)] at hj
  have e1 : (l.map (·.1))[j]? = some e.1 := by rw [List.getElem?_map, hj]; exact congrArg some z
  have e2 : (l.map (·.1))[i]? = some e.1 := by rw [List.getElem?_map, h]; rfl
  have := (List.getElem?_inj (List.getElem?_eq_some_iff.mp e1).1 nd).mp (e1.trans e2.symm)
  omega
theorem tk_nd {ks : Cords} (nd : (ks.map (·.1)).Nodup) : ((tk ks).map (·.1)).Nodup := by
  unfold tk
  rw [List.map_map]
  exact nd
section
variable {M : Md} {k : Nat} {C : Addr}
abbrev KeepA (p : (Addr × Addr × Hal) × Str × List Nat × Int) : List Da := [.str p.2.1, .str (tx p.2.2.1), .int p.2.2.2]
abbrev KeepP (C : Addr) (p : (Addr × Addr × Hal) × Str × List Nat × Int) (_ : Da) (s' : HSt) : Prop := s' = hst C (p.1.1, p.1.2.1, p.1.2.2.kept p.2.1 p.2.2.1 p.2.2.2)
abbrev KeepC (M : Md) (k : Nat) (C : Addr) : Prop := CalM M k C "keep" [true, true, true] KeepA (fun p => hst C p.1) (fun p => HalOk p.1.2.2) (KeepP C)
theorem ok_keep {f : Addr} {fd : FuncData} (F : Fun M.K "keep" "Hall.keep" s_Hall_keep f fd) (hk : HallK M.K C) :
    FnOk M.P M.w M.K M.mg M.base CX0 (k + 1) f fd ["self", "name", "row", "cost"] (SpM M.K [true, true, true] KeepA (fun p => hst C p.1) (fun p => HalOk p.1.2.2) (KeepP C)) := by
  refine fnm_ok F S_Hall_keep rfl fun X S ⟨⟨a, la, h⟩, n, r, c⟩ ho => ?_
  dsimp only at ho
  show DBm X (hst C (a, la, h)) _ [some (.hb (hst C (a, la, h))), some (.d (.str n)), some (.d (.str (tx r))), some (.d (.int c)), none, none, none] _ _
  have hl := ho.len
  have hnd := tk_nd ho.nd
  have hi0 : ∀ i : Nat, n_Hall_keep[i]? = some ("self" : Str) → i = 0 := fun i hi => nodup_ix S.nd hi rfl
  refine dbm_ds (ds_itemsDc S (s := hst C (a, la, h)) (kvs := (tk h.now.1).map entX) (r := [.int h.now.2]) (δ0 := [none, some (.d (.str n)), none, none, none, none, none]) (os := ["one", "some"]) hk (by walk_at "gt") (by walk_at "dk") rfl (by unfold tk; rw [List.length_map, List.length_map]; omega) ?_ (by walk_at "wp")
    (fun i acc => acc = (((tk h.now.1).take i).filter fun e => decide (e.1 ≠ n)).map entX) rfl (fun X1 S1 i q acc hq pi => ?_) (fun acc pa => ?_) (by walk_at "dk") (by walk_at "dk") (by walk_at "dk"))
  · refine ⟨rfl, fun i t e => ?_⟩
    match i, e with
    | 0, e => cases e
    | 1, e => cases e; exact ⟨_, rfl, rfl⟩
    | 2, e => cases e
    | 3, e => cases e
    | 4, e => cases e
    | 5, e => cases e
    | 6, e => cases e
    | i + 7, e => simp at e
  · subst pi
    rw [List.getElem?_map] at hq
    obtain ⟨e, he, rfl⟩ := Option.map_eq_some_iff.mp hq
    refine dg_tup S1 (dgs_cons (dg_name S1 (by walk_at "dk") ⟨_, by walk_at "ss", dgs_cons (dg_name S1 (by walk_at "dk") ⟨_, by walk_at "ss", dgs_nil fun X2 S2 => DTs.one ?_⟩)⟩))
    walk_at "go"
    refine .neS rfl ?_
    have ek : decide (kV (entX e).1 = V.str n) = decide (e.1 = n) := by
      refine decide_eq_decide.mpr ⟨fun z => ?_, fun z => ?_⟩
      · exact V.str.inj z
      · show V.str e.1 = V.str n
        rw [z]
    rw [ek, take_snoc he, List.filter_append]
    refine ⟨fun z X3 S3 => ?_, fun z => ?_⟩
    · have ne : e.1 ≠ n := by simpa using z
      walk_at "go"
      intro X4 S4
      walk_at "go"
      refine ⟨_, _, rfl, rfl, ?_⟩
      rw [List.filter_cons_of_pos (by simpa using ne), List.filter_nil, List.map_append]
      refine putK_new (valV_no fun x hx => take_ne hnd he x (List.mem_filter.mp hx).1)
    · have eq : e.1 = n := by simpa using z
      rw [List.filter_cons_of_neg (by simpa using eq), List.filter_nil, List.append_nil]
  · subst pa
    rw [List.length_map, List.take_length]
    refine ⟨_, by walk_at "ss", ?_⟩
    refine dbm_if ?_
    walk_at "go"
    refine .notN (spT ?_)
    refine dbm_ds (ds_dputK S (by walk_at "gt") (by walk_at "dk") ?_ ?_)
    · rw [List.length_map]
      have := List.length_filter_le (fun e : Str × Str => decide (e.1 ≠ n)) (tk h.now.1)
      unfold tk at this ⊢
      rw [List.length_map] at this
      omega
    walk_at "go"
    refine ⟨_, Sum.inr n, rfl, rfl, _, by walk_at "ss", ?_⟩
    rw [tk_keep]
    refine dbm_nil ?_
    have hfm := ho.fm
    refine dbm_app S (by walk_at "gt") hk (by walk_at "dk") (by rfl) (by rfl) (by show (h.fm.map nowD).length < _; rw [List.length_map]; omega) (fun i hi => by rw [hi0 i hi]; rfl) ?_
    walk_at "go"
    refine ⟨_, by walk_at "ss", ?_⟩
    refine dbm_freeze S.nd (x := "held") (by walk_at "gt") rfl ⟨_, by walk_at "ss", ?_⟩
    refine dbm_set S (by walk_at "gt") hk (by walk_at "dk") (by rfl) (by rfl) (fun i hi => by rw [hi0 i hi]; rfl) ?_
    walk_at "go"
    refine .tup (at1 _ _ _) ?_
    walk_at "go"
    refine ⟨_, by walk_at "ss", ?_⟩
    refine dbm_nil ⟨_, _, rfl, rfl, rfl, rfl, ?_⟩
    show (⟨a, la, C, _, _, _⟩ : HSt) = ⟨a, la, C, _, _, _⟩
    congr 1
    show h.fm.map nowD ++ [nowD h.now] = (h.fm ++ [h.now]).map nowD
    rw [List.map_append]
    rfl
end

local macro_rules | `(tactic| walk_at "pm") => `(tactic| (intro i hi; first
  | (rw [show i = 0 from nodup_ix (Sc.nd ‹Sc _ _ _ _ _ _›) hi rfl]; rfl)
  | (rw [show i = 4 from nodup_ix (Sc.nd ‹Sc _ _ _ _ _ _›) hi rfl]; rfl)))
local macro_rules | `(tactic| walk_at "stB") => `(tactic| first
  | refine dbm_ret ?_
  | refine dbm_if ?_
  | refine dbm_m ‹Sc _ _ _ _ _ _› (by walk_at "gt") (by walk_at "dk") rfl ‹HallK _ _› (by assumption) (by rfl) (by rfl) (by walk_at "pm") ?_
  | (show DBm _ _ (.Assign _ _ _ :: _) _ _ _; refine dbm_ds ?_)
  | refine dbm_ds (ds_expr ?_))
local macro_rules | `(tactic| walk_at "st") => `(tactic| (show DBm _ _ _ _ _ _; walk_at "stB"))
local macro_rules | `(tactic| walk_at "wk") => `(tactic| (repeat (first | exact WkS.nil | refine WkS.keep ?_ | refine WkS.drop ?_)))

/-! ### names; a hall's deeds -/
def lowB (r : List Nat) : Bool := r.all fun c => decide (97 ≤ c ∧ c ≤ 122)
def nameB : Da → Bool
  | .a (.str x) => decide (1 ≤ x.cps.toList.length ∧ x.cps.toList.length ≤ 8) && lowB x.cps.toList
  | _ => false
theorem nameB_ns {d : Da} (h : isT "str" d = false) : nameB d = false := by
  cases d with
  | a v =>
    cases v with
    | str x => have : isT "str" (.str x) = true := isT_str
               rw [this] at h; cases h
    | _ => rfl
  | _ => rfl
abbrev IsNameC (M : Md) (k : Nat) : Prop := Cal M k "is_name" [true] (fun d : Da => [d]) RowAny (fun d y => y = .bl (nameB d))
section
variable {M : Md} {k : Nat}
theorem ok_isname {f : Addr} {fd : FuncData} (F : Fun M.K "is_name" "is_name" s_is_name f fd) (hL : ∃ t, M.mg "LETTERS" = some (.str lettersS t)) (mi : M.mg "isinstance" = none) (ms : M.mg "str" = none) (ml : M.mg "len" = none) (ma : M.mg "all" = none) :
    FnOk M.P M.w M.K M.mg M.base CX0 (k + 1) f fd ["thing"] (SpD M.K [true] (fun d : Da => [d]) RowAny (fun d y => y = .bl (nameB d))) := by
  have hL : GlS M "LETTERS" lettersS := hL
  refine fn_ok F S_is_name rfl fun X S d ⟨hk, hx⟩ => ?_
  show DB X _ [some (.d d), none] _ _ _ _
  walk_at "go"
  refine de_and ?_
  walk_at "go"
  refine bw_is hk (by decide) ⟨_, rfl, fun h1 => ?_, fun h1 => ?_⟩
  rotate_left
  · rw [nameB_ns h1]
  obtain ⟨x, rfl⟩ := str_of h1 hk
  obtain ⟨hl, hc⟩ := hx x rfl
  rw [str_eta x] at hl hc ⊢
  generalize x.cps.toList = r at hl hc
  rw [len_tx] at hl
  have hc : ∀ c ∈ r, c < 128 := hc
  have hS : (tx r).length ≤ sizeLine := by rw [len_tx]; exact sl1 (by omega)
  show DM _ _ _ _ fun y => y = .bl (decide (1 ≤ r.length ∧ r.length ≤ 8) && lowB r)
  refine de_and ?_
  walk_at "go"
  refine bw_lenS hS ?_
  rw [len_tx]
  refine .le ⟨fun h2 => ?_, fun h2 => ?_⟩
  rotate_left
  · have h2 := of_decide_eq_false h2
    refine ⟨false, rfl, fun z => absurd z (by decide), fun _ => ?_⟩
    rw [decide_eq_false (by omega)]
    rfl
  have h2 := of_decide_eq_true h2
  walk_at "go"
  refine .le ⟨_, rfl, fun h3 => ?_, fun h3 => ?_⟩
  rotate_left
  · have h3 := of_decide_eq_false h3
    rw [decide_eq_false (by omega)]
    rfl
  have h3 := of_decide_eq_true h3
  rw [decide_eq_true (by omega), Bool.true_and]
  refine de_one ?_
  walk_at "go"
  refine de_lc1 S (di_str ?_) (by walk_at "dk")
  walk_at "go"
  refine ⟨_, rfl, ?_⟩
  rw [chars_tx]
  refine lc_map (f := fun c => Da.bl (decide (97 ≤ c ∧ c ≤ 122))) (by walk_at "wp") (by omega) (fun X1 S1 c hcr => ?_) ?_
  · refine dg_name S1 (by walk_at "dk") ⟨_, by walk_at "ss", fun X2 S2 => ?_⟩
    walk_at "go"
    refine .inS ?_
    show Da.bl _ = Da.bl _
    congr 1
    exact decide_eq_decide.mpr (mem_letters c)
  · have e : r.map (fun c => Da.bl (decide (97 ≤ c ∧ c ≤ 122))) = (r.map fun c => decide (97 ≤ c ∧ c ≤ 122)).map Da.bl := by rw [List.map_map]; rfl
    rw [e]
    walk_at "go"
    refine bw_all S ?_
    show Da.bl _ = Da.bl _
    congr 1
    unfold lowB
    rw [List.all_map]
    rfl
end
def NameOk (n : Str) : Prop := nameB (.str n) = true ∧ n.length ≤ 1000 ∧ ∀ c ∈ n.cps.toList, c < 128
section
variable {M : Md} {k : Nat} {C : Addr}
/-- what a deed leaves -/
abbrev KeptP (C : Addr) {α : Type} (hall : α → Addr × Addr × Hal) (n : α → Str) (r : α → List Nat) (c : α → Int) (p : α) (_ : Da) (s' : HSt) : Prop := s' = hst C ((hall p).1, (hall p).2.1, (hall p).2.2.kept (n p) (r p) (c p))
abbrev LayA (p : (Addr × Addr × Hal) × Str × List Nat) : List Da := [.str p.2.1, .str (tx p.2.2)]
abbrev LayPre (p : (Addr × Addr × Hal) × Str × List Nat) : Prop := HalOk p.1.2.2 ∧ NameOk p.2.1 ∧ rowAt p.1.2.2.now.1 p.2.1 = none ∧ RowOf p.1.2.2.fl p.2.2 ∧ p.2.2.length ≤ 40 ∧ p.1.2.2.now.1.length < 6
abbrev LayP (C : Addr) (p : (Addr × Addr × Hal) × Str × List Nat) : Da → HSt → Prop := KeptP C (fun p : (Addr × Addr × Hal) × Str × List Nat => p.1) (fun p => p.2.1) (fun p => tight p.2.2) (fun _ => 0) p
abbrev LayC (M : Md) (k : Nat) (C : Addr) : Prop := CalM M k C "lay" [true, true] LayA (fun p => hst C p.1) LayPre (LayP C)
theorem ok_lay {f : Addr} {fd : FuncData} (F : Fun M.K "lay" "Hall.lay" s_Hall_lay f fd) (hk : HallK M.K C) (cN : IsNameC M k) (cT : TightC M k) (cNe : NeedC M k C) (cLe : HLenC M k C) (cK : KeepC M k C) (ml : M.mg "len" = none) (hM : GlI M "MOST_CORDS" 6) :
    FnOk M.P M.w M.K M.mg M.base CX0 (k + 2) f fd ["self", "name", "row"] (SpM M.K [true, true] LayA (fun p => hst C p.1) LayPre (LayP C)) := by
  have cN := cN.mono (show k ≤ k + 1 by omega)
  have cT := cT.mono (show k ≤ k + 1 by omega)
  have cNe := cNe.mono (show k ≤ k + 1 by omega)
  have cK := cK.mono (show k ≤ k + 1 by omega)
  refine fnm_ok F S_Hall_lay rfl fun X S ⟨⟨a, la, h⟩, n, r⟩ ⟨ho, hn, hno, hr, hl, h6⟩ => ?_
  dsimp only at ho hn hno hr hl h6
  show DBm X (hst C (a, la, h)) _ [some (.hb (hst C (a, la, h))), some (.d (.str n)), some (.d (.str (tx r)))] _ _
  refine dbm_if (dt_not (dt_val ?_))
  walk_at "go"
  refine ⟨.str n, rfl, ⟨trivial, fun x e => by cases e; exact hn.2⟩, ?_⟩
  rintro _ rfl
  refine ⟨_, rfl, ?_⟩
  rw [hn.1]
  refine spF (dbm_nil ?_)
  refine dbm_if ?_
  walk_at "go"
  refine .tup (at0 _ _) ?_
  refine .inK (q := Sum.inr n) ?_
  have hv := valV_tk n h.now.1
  rw [hno] at hv
  rw [hv]
  refine spF (dbm_nil ?_)
  walk_at "go"
  refine ⟨((a, la, h), r), rfl, rfl, ⟨ho.fl, hr, hl⟩, ?_⟩
  rintro _ _
  refine dbm_if (dt_cmp S (by walk_at "mk") (de_lenH S hk cLe (by walk_at "gt") (by walk_at "dk") (by assumption) (by walk_at "dk") ?_))
  refine ⟨(a, la, h), rfl, rfl, ho, ?_⟩
  rintro _ rfl
  refine ⟨_, rfl, by omega, ?_, ?_⟩
  · have : (2 : Int) ^ 63 = 9223372036854775808 := by decide
    dsimp only
    omega
  walk_at "go"
  refine .eqS rfl ?_
  rw [decide_eq_false (fun z => by have := V.int.inj z; dsimp only at this; omega)]
  refine spF (dbm_nil ?_)
  walk_at "go"
  refine ⟨r, rfl, ⟨hr.row ho.fl, by omega⟩, ?_⟩
  rintro _ rfl
  walk_at "go"
  refine ⟨((a, la, h), n, tight r, 0), rfl, rfl, ho, ?_⟩
  rintro _ s' e1 e2 e3 rfl
  refine ⟨_, by walk_at "ss", ?_⟩
  exact dbm_nil ⟨_, _, rfl, rfl, rfl, rfl, rfl⟩
abbrev LayOnPre (p : (Addr × Addr × Hal) × Str × List Nat × List Nat) : Prop := HalOk p.1.2.2 ∧ (rowAt p.1.2.2.now.1 p.2.1 = some p.2.2.1 ∧ Row p.2.2.1 ∧ p.2.2.1.length ≤ 40) ∧ RowOf p.1.2.2.fl p.2.2.2 ∧ p.2.2.2.length ≤ 40 ∧ (tight (p.2.2.1 ++ p.2.2.2)).length ≤ 40
abbrev LayOnP (C : Addr) (p : (Addr × Addr × Hal) × Str × List Nat × List Nat) : Da → HSt → Prop := KeptP C (fun p : (Addr × Addr × Hal) × Str × List Nat × List Nat => p.1) (fun p => p.2.1) (fun p => tight (p.2.2.1 ++ p.2.2.2)) (fun _ => 0) p
abbrev LayOnA (p : (Addr × Addr × Hal) × Str × List Nat × List Nat) : List Da := [.str p.2.1, .str (tx p.2.2.2)]
abbrev LayOnC (M : Md) (k : Nat) (C : Addr) : Prop := CalM M k C "lay_on" [true, true] LayOnA (fun p => hst C p.1) LayOnPre (LayOnP C)
theorem ok_layon {f : Addr} {fd : FuncData} (F : Fun M.K "lay_on" "Hall.lay_on" s_Hall_lay_on f fd) (hk : HallK M.K C) (cC : CordC M k C) (cNe : NeedC M k C) (cS : ShortC M k C) (cK : KeepC M k C) :
    FnOk M.P M.w M.K M.mg M.base CX0 (k + 1) f fd ["self", "name", "row"] (SpM M.K [true, true] LayOnA (fun p => hst C p.1) LayOnPre (LayOnP C)) := by
  refine fnm_ok F S_Hall_lay_on rfl fun X S ⟨⟨a, la, h⟩, n, q, r⟩ ⟨ho, ⟨hq, hqr, hql⟩, hr, hl, ht⟩ => ?_
  dsimp only at ho hq hqr hql hr hl ht
  show DBm X (hst C (a, la, h)) _ [some (.hb (hst C (a, la, h))), some (.d (.str n)), some (.d (.str (tx r))), none] _ _
  walk_at "go"
  refine ⟨((a, la, h), n, q), rfl, rfl, ⟨ho, hq⟩, ?_⟩
  rintro _ rfl
  refine ⟨_, by walk_at "ss", ?_⟩
  walk_at "go"
  refine ⟨((a, la, h), r), rfl, rfl, ⟨ho.fl, hr, hl⟩, ?_⟩
  rintro _ _
  walk_at "go"
  rotate_left
  · rw [len_tx, len_tx]; exact sl1 (by dsimp only; omega)
  rw [app_tx]
  refine ⟨((a, la, h), q ++ r), rfl, rfl, ⟨row_app2 hqr (hr.row ho.fl), by show (q ++ r).length ≤ 1000; rw [List.length_append]; omega, ht⟩, ?_⟩
  rintro _ rfl
  walk_at "go"
  refine ⟨((a, la, h), n, tight (q ++ r), 0), rfl, rfl, ho, ?_⟩
  rintro _ s' e1 e2 e3 rfl
  refine ⟨_, by walk_at "ss", ?_⟩
  exact dbm_nil ⟨_, _, rfl, rfl, rfl, rfl, rfl⟩
/-- a turn put in: the hall, the name, its row, the place, the turn, its cost -/
abbrev PutPre (p : (Addr × Addr × Hal) × Str × List Nat × Nat × Nat × Int) : Prop := HalOk p.1.2.2 ∧ (rowAt p.1.2.2.now.1 p.2.1 = some p.2.2.1 ∧ RowOf p.1.2.2.fl p.2.2.1 ∧ p.2.2.1.length ≤ 40) ∧ p.2.2.2.1 ≤ p.2.2.1.length ∧ p.2.2.2.2.1 ∈ turnsF p.1.2.2.fl ∧ wF p.1.2.2.fl p.2.2.2.2.1 = some p.2.2.2.2.2 ∧ (tight (p.2.2.1.take p.2.2.2.1 ++ p.2.2.2.2.1 :: p.2.2.1.drop p.2.2.2.1)).length ≤ 40
abbrev PutA (p : (Addr × Addr × Hal) × Str × List Nat × Nat × Nat × Int) : List Da := [.str p.2.1, .int (p.2.2.2.1 : Nat), sg p.2.2.2.2.1]
abbrev PutP (C : Addr) (p : (Addr × Addr × Hal) × Str × List Nat × Nat × Nat × Int) : Da → HSt → Prop := KeptP C (fun p : (Addr × Addr × Hal) × Str × List Nat × Nat × Nat × Int => p.1) (fun p => p.2.1) (fun p => tight (p.2.2.1.take p.2.2.2.1 ++ p.2.2.2.2.1 :: p.2.2.1.drop p.2.2.2.1)) (fun p => p.2.2.2.2.2) p
abbrev PutC (M : Md) (k : Nat) (C : Addr) : Prop := CalM M k C "put_in" [true, true, true] PutA (fun p => hst C p.1) PutPre (PutP C)
theorem ok_putin {f : Addr} {fd : FuncData} (F : Fun M.K "put_in" "Hall.put_in" s_Hall_put_in f fd) (hk : HallK M.K C) (cC : CordC M k C) (cB : BetweenC M k) (cCo : CostsC M k) (cP : PriceC M k C) (cS : ShortC M k C) (cK : KeepC M k C) (ml : M.mg "len" = none) (mi : M.mg "isinstance" = none) (ms : M.mg "str" = none) :
    FnOk M.P M.w M.K M.mg M.base CX0 (k + 1) f fd ["self", "name", "place", "turn"] (SpM M.K [true, true, true] PutA (fun p => hst C p.1) PutPre (PutP C)) := by
  refine fnm_ok F S_Hall_put_in rfl fun X S ⟨⟨a, la, h⟩, n, q, i, c, v⟩ ⟨ho, ⟨hq, hqr, hql⟩, hi, hc, hv, ht⟩ => ?_
  dsimp only at ho hq hqr hql hi hc hv ht
  show DBm X (hst C (a, la, h)) _ [some (.hb (hst C (a, la, h))), some (.d (.str n)), some (.d (.int (i : Nat))), some (.d (sg c)), none, none] _ _
  have hS : ∀ l : List Nat, l.length ≤ 300000 → (tx l).length ≤ sizeLine := fun l hl => by rw [len_tx]; exact sl1 (by omega)
  walk_at "go"
  refine ⟨((a, la, h), n, q), rfl, rfl, ⟨ho, hq⟩, ?_⟩
  rintro _ rfl
  refine ⟨_, by walk_at "ss", ?_⟩
  refine dbm_if (dt_not (dt_val ?_))
  walk_at "go"
  refine bw_lenS (hS q (by omega)) ?_
  rw [len_tx]
  walk_at "go"
  refine ⟨(.int (i : Nat), 0, (q.length : Nat)), rfl, trivial, ?_⟩
  rintro _ rfl
  refine ⟨_, rfl, ?_⟩
  dsimp only
  have hb : btw 0 (q.length : Nat) (.int (i : Nat)) = true := decide_eq_true ⟨by omega, by omega⟩
  rw [hb]
  refine spF (dbm_nil ?_)
  refine dbm_if (dt_w (dw_or (dt_not (dt_val ?_))))
  walk_at "go"
  refine bw_isi (T := "str") (r := true) trivial (by show kitB "str" "str" = _; decide) ⟨_, rfl, spF ?_⟩
  walk_at "go"
  refine ⟨h.fl, rfl, ho.fl, ?_⟩
  rintro _ ⟨kc, rfl, hkc⟩
  refine .notInK (q := kC c) ?_
  rw [hkc.at_ c hc]
  refine spF (dbm_nil ?_)
  walk_at "go"
  refine ⟨((a, la, h), c, v), rfl, rfl, ⟨ho.fl, hc, hv⟩, ?_⟩
  rintro _ rfl
  refine ⟨_, by walk_at "ss", ?_⟩
  walk_at "go"
  refine ⟨_, rfl, .str (hS q (by omega)) ?_⟩
  rw [cut_to q (by omega), show ((i : Int)).toNat = i by omega]
  walk_at "go"
  rotate_left
  · rw [len_tx, len_tx]; exact sl1 (by simp only [List.length_append, List.length_take, List.length_drop, List.length_cons, List.length_nil]; omega)
  rw [app_tx]
  walk_at "go"
  refine ⟨_, rfl, .str (hS q (by omega)) ?_⟩
  rw [cut_from q (by omega), show ((i : Int)).toNat = i by omega]
  walk_at "go"
  rotate_left
  · rw [len_tx, len_tx]; exact sl1 (by simp only [List.length_append, List.length_take, List.length_drop, List.length_cons, List.length_nil]; omega)
  rw [app_tx]
  have e : q.take i ++ [c] ++ q.drop i = q.take i ++ c :: q.drop i := by simp
  rw [e]
  refine ⟨((a, la, h), q.take i ++ c :: q.drop i), rfl, rfl, ⟨fun z hz => ?_, by show (q.take i ++ c :: q.drop i).length ≤ 1000; simp; omega, ht⟩, ?_⟩
  · rcases List.mem_append.mp hz with hz | hz
    · exact hqr.row ho.fl z (List.mem_of_mem_take hz)
    · rcases List.mem_cons.mp hz with rfl | hz
      · exact turnsF_T ho.fl hc
      · exact hqr.row ho.fl z (List.mem_of_mem_drop hz)
  rintro _ rfl
  walk_at "go"
  refine ⟨((a, la, h), n, tight (q.take i ++ c :: q.drop i), v), rfl, rfl, ho, ?_⟩
  rintro _ s' e1 e2 e3 rfl
  refine ⟨_, by walk_at "ss", ?_⟩
  exact dbm_nil ⟨_, _, rfl, rfl, rfl, rfl, rfl⟩
/-- a turn taken out: the hall, the name, its row, the place, the cost -/
abbrev OutPre (p : (Addr × Addr × Hal) × Str × List Nat × Nat × Int) : Prop := HalOk p.1.2.2 ∧ (rowAt p.1.2.2.now.1 p.2.1 = some p.2.2.1 ∧ RowOf p.1.2.2.fl p.2.2.1 ∧ p.2.2.1.length ≤ 40) ∧ ∃ c, p.2.2.1[p.2.2.2.1]? = some c ∧ wF p.1.2.2.fl c = some p.2.2.2.2
abbrev OutA (p : (Addr × Addr × Hal) × Str × List Nat × Nat × Int) : List Da := [.str p.2.1, .int (p.2.2.2.1 : Nat)]
abbrev OutP (C : Addr) (p : (Addr × Addr × Hal) × Str × List Nat × Nat × Int) : Da → HSt → Prop := KeptP C (fun p : (Addr × Addr × Hal) × Str × List Nat × Nat × Int => p.1) (fun p => p.2.1) (fun p => tight (p.2.2.1.take p.2.2.2.1 ++ p.2.2.1.drop (p.2.2.2.1 + 1))) (fun p => p.2.2.2.2) p
abbrev OutC (M : Md) (k : Nat) (C : Addr) : Prop := CalM M k C "take_out" [true, true] OutA (fun p => hst C p.1) OutPre (OutP C)
theorem ok_takeout {f : Addr} {fd : FuncData} (F : Fun M.K "take_out" "Hall.take_out" s_Hall_take_out f fd) (hk : HallK M.K C) (cC : CordC M k C) (cB : BetweenC M k) (cP : PriceC M k C) (cT : TightC M k) (cK : KeepC M k C) (ml : M.mg "len" = none) :
    FnOk M.P M.w M.K M.mg M.base CX0 (k + 1) f fd ["self", "name", "place"] (SpM M.K [true, true] OutA (fun p => hst C p.1) OutPre (OutP C)) := by
  refine fnm_ok F S_Hall_take_out rfl fun X S ⟨⟨a, la, h⟩, n, q, i, v⟩ ⟨ho, ⟨hq, hqr, hql⟩, c, hc, hv⟩ => ?_
  dsimp only at ho hq hqr hql hc hv
  show DBm X (hst C (a, la, h)) _ [some (.hb (hst C (a, la, h))), some (.d (.str n)), some (.d (.int (i : Nat))), none, none] _ _
  have hS : ∀ l : List Nat, l.length ≤ 300000 → (tx l).length ≤ sizeLine := fun l hl => by rw [len_tx]; exact sl1 (by omega)
  have hil := (List.getElem?_eq_some_iff.mp hc).1
  have hcm := hqr c (List.mem_of_getElem? hc)
  walk_at "go"
  refine ⟨((a, la, h), n, q), rfl, rfl, ⟨ho, hq⟩, ?_⟩
  rintro _ rfl
  refine ⟨_, by walk_at "ss", ?_⟩
  refine dbm_if (dt_not (dt_val ?_))
  walk_at "go"
  refine bw_lenS (hS q (by omega)) ?_
  rw [len_tx]
  walk_at "go"
  refine ⟨(.int (i : Nat), 0, (q.length : Nat) - 1), rfl, trivial, ?_⟩
  rintro _ rfl
  refine ⟨_, rfl, ?_⟩
  dsimp only
  have hb : btw 0 ((q.length : Nat) - 1) (.int (i : Nat)) = true := decide_eq_true ⟨by omega, by omega⟩
  rw [hb]
  refine spF (dbm_nil ?_)
  walk_at "go"
  refine at_tx (X := X) (by omega) rfl hc ?_
  walk_at "go"
  refine ⟨((a, la, h), c, v), rfl, rfl, ⟨ho.fl, hcm, hv⟩, ?_⟩
  rintro _ rfl
  refine ⟨_, by walk_at "ss", ?_⟩
  walk_at "go"
  refine ⟨_, rfl, .str (hS q (by omega)) ?_⟩
  rw [cut_to q (by omega), show ((i : Int)).toNat = i by omega]
  walk_at "go"
  refine ⟨_, rfl, .str (hS q (by omega)) ?_⟩
  rw [cut_from q (by omega), show ((i : Int) + 1).toNat = i + 1 by omega]
  walk_at "go"
  rotate_left
  · rw [len_tx, len_tx]; exact sl1 (by simp only [List.length_append, List.length_take, List.length_drop, List.length_cons, List.length_nil]; omega)
  rw [app_tx]
  refine ⟨q.take i ++ q.drop (i + 1), rfl, ⟨fun z hz => ?_, by show (q.take i ++ q.drop (i + 1)).length ≤ 100000; simp; omega⟩, ?_⟩
  · rcases List.mem_append.mp hz with hz | hz
    · exact hqr.row ho.fl z (List.mem_of_mem_take hz)
    · exact hqr.row ho.fl z (List.mem_of_mem_drop hz)
  rintro _ rfl
  walk_at "go"
  refine ⟨((a, la, h), n, tight (q.take i ++ q.drop (i + 1)), v), rfl, rfl, ho, ?_⟩
  rintro _ s' e1 e2 e3 rfl
  refine ⟨_, by walk_at "ss", ?_⟩
  exact dbm_nil ⟨_, _, rfl, rfl, rfl, rfl, rfl⟩
/-- the last deed taken back: the hall, what stood ahead of it -/
abbrev BackPre (p : (Addr × Addr × Hal) × List (Cords × Int) × Cords × Int) : Prop := p.1.2.2.fm = p.2.1 ++ [p.2.2]
abbrev BackP (C : Addr) (p : (Addr × Addr × Hal) × List (Cords × Int) × Cords × Int) (_ : Da) (s' : HSt) : Prop := s' = hst C (p.1.1, p.1.2.1, ⟨p.1.2.2.fl, p.2.2, p.2.1⟩)
abbrev HBackC (M : Md) (k : Nat) (C : Addr) : Prop := CalM M k C "back" [] (fun _ : (Addr × Addr × Hal) × List (Cords × Int) × Cords × Int => []) (fun p => hst C p.1) BackPre (BackP C)
theorem ok_hback {f : Addr} {fd : FuncData} (F : Fun M.K "back" "Hall.back" s_Hall_back f fd) (hk : HallK M.K C) :
    FnOk M.P M.w M.K M.mg M.base CX0 (k + 1) f fd ["self"] (SpM M.K [] (fun _ : (Addr × Addr × Hal) × List (Cords × Int) × Cords × Int => []) (fun p => hst C p.1) BackPre (BackP C)) := by
  refine fnm_ok F S_Hall_back rfl fun X S ⟨⟨a, la, fl, now, fm⟩, l, e⟩ hf => ?_
  have hf : fm = l ++ [e] := hf
  subst hf
  show DBm X (hst C (a, la, ⟨fl, now, l ++ [e]⟩)) _ [some (.hb (hst C (a, la, ⟨fl, now, l ++ [e]⟩)))] _ _
  refine dbm_if (dt_eqLen S (by walk_at "mk") (dv_fldF S (by walk_at "gt") (by walk_at "dk") hk ?_))
  walk_at "go"
  refine ⟨_, _, rfl, rfl, by show ((l ++ [e]).map nowD).length ≠ 0; simp, spF (dbm_nil ?_)⟩
  refine dbm_pop S hk (by walk_at "gt") (by walk_at "dk") rfl rfl (l := l.map nowD) (d := nowD e) (by show (l ++ [e]).map nowD = _; rw [List.map_append]; rfl) ?_ (by walk_at "pm")
  refine ⟨_, by walk_at "ss", ?_⟩
  exact dbm_nil ⟨_, _, rfl, rfl, rfl, rfl, rfl⟩
end

/-! ### a hall made -/
abbrev hallD2 : Da := nowD ([], 0)
abbrev InitPre (d : Da) : Prop := ∃ fl : Floor, FloorOk fl ∧ d = encF fl
abbrev MakeC (M : Md) (k : Nat) (C : Addr) : Prop := CalI M k "Hall" C InitPre hallD2
section
variable {M : Md} {k : Nat} {C : Addr}
theorem ok_init {f : Addr} {fd : FuncData} (F : Fun M.K "__init__" "Hall.__init__" s_Hall___init__ f fd) (hk : HallK M.K C) (cF : IsFloorC M k) :
    FnOk M.P M.w M.K M.mg M.base CX0 (k + 1) f fd ["self", "floor"] (SpI M.K C InitPre hallD2) := by
  refine F.ok S_Hall___init__ (fun vs H Q E h => ?_) (fun cdv A outer s H vs Q E hr h => ?_)
  · obtain ⟨a, dx, d, v, Hs, rfl, _⟩ := h
    rfl
  · obtain ⟨a, dx, d, v, Hs, rfl, e, ha, na, r, ⟨fl, hf, rfl⟩, q⟩ := h
    have o : Ok M.K Hs H Hs H (L2.start n_Hall___init__ [.ref a, v]) [some (.d (.a (.ref a))), some (.d (encF fl))] := ok_start (ms := [true, true]) (ds := [.a (.ref a), encF fl]) e (.cons (.a _) (.cons r .nil)) (by decide)
    have S : Sc M _ k n_Hall___init__ (defScope s_Hall___init__) (defScope s_Hall___init__) := sc_of (mg := M.mg) (base := M.base) (K := M.K) (P := M.P) (w := M.w) (f := f) (outer := outer) (s := s) (H := H) (E := E) S_Hall___init__ hr
    refine ⟨_, pb_W, ?_⟩
    have h1 : ∀ X, Sc M X k n_Hall___init__ (defScope s_Hall___init__) (defScope s_Hall___init__) → ∀ D : Ends, (∀ σ' la Hs' H', (∀ q o, q ≠ a → H q = some o → H' q = some o) → H la = none → Same Hs Hs' → Same Hs' H' → (∀ q, H q ≠ none → Hs q = none → Hs' q = none) → ObjAt M.K Hs' H' ⟨a, la, C, encF fl, hallD2, []⟩ → D.nx σ' H') → WB X (defBody s_Hall___init__) D (L2.start n_Hall___init__ [.ref a, v]) H := fun X S D fin => by
      have eK := S.hK
      refine wb_init S hk (kt := 0) (q7 := ⟨0, 0, 0, 0⟩) (q8 := ⟨0, 0, 0, 0⟩) (x := "self") (d := encF fl) (d2 := hallD2) (a := a) (dx := dx) (δ := [some (.d (.a (.ref a))), some (.d (encF fl))]) (by walk_at "gt") (by walk_at "dk") rfl ?_ ?_ ?_ ?_ (by rw [eK]; exact o) ha na (by rw [eK]; exact fin)
      · refine ds_if (dt_not (dt_val ?_))
        walk_at "go"
        refine ⟨encF fl, rfl, ⟨2, (th_floorH hf).mono (by decide) (by decide)⟩, ?_⟩
        rintro _ rfl
        refine ⟨_, rfl, ?_⟩
        rw [floorB_enc hf]
        exact spF (db_nil rfl)
      · walk_at "go"
        rfl
      · walk_at "go"
        refine de_dict0 ?_
        walk_at "go"
        rfl
      · exact fun Q σ H q => WE.of (pe_lst pa_nil) ⟨by decide, fun p hp => q p hp⟩
    exact h1 _ S _ fun σ' la Hs' H' k1 k2 k3 k4 k5 k6 => q la Hs' H' k1 k2 k3 k4 k5 k6
end

/-! ### how one tight row is made another one -/
abbrev Stp := Nat × Option Nat
def encS : Stp → Da
  | (i, none) => .tup [.int (i : Nat), .str (tx [])]
  | (i, some c) => .tup [.int (i : Nat), sg c]
def putR (r : List Nat) (i c : Nat) : List Nat := r.take i ++ c :: r.drop i
def outR (r : List Nat) (i : Nat) : List Nat := r.take i ++ r.drop (i + 1)
def StepOk (one oth : List Nat) : Stp → Prop
  | (i, none) => i < one.length ∧ tight (outR one i) = oth
  | (i, some c) => i ≤ one.length ∧ (c ∈ oth ∨ c ∈ back oth) ∧ tight (putR one i c) = oth
abbrev StepC (M : Md) (k : Nat) : Prop := Cal M k "_law_step" [true, true] (fun p : List Nat × List Nat => [.str (tx p.1), .str (tx p.2)]) (fun p => Row p.1 ∧ Row p.2 ∧ p.1.length ≤ 300 ∧ p.2.length ≤ 300) (fun p d => d = .non ∨ ∃ s, d = encS s ∧ StepOk p.1 p.2 s)
section
variable {M : Md} {k : Nat}
theorem tx_str {r s : List Nat} (h : V.str (tx r) = V.str (tx s)) : r = s := congrArg (fun z : Str => z.cps.toList) (V.str.inj h)
theorem ok_lstep {f : Addr} {fd : FuncData} (F : Fun M.K "_law_step" "_law_step" s_lstep f fd) (cT : LTightC M k) (cB : LBackC M k) (ml : M.mg "len" = none) (mr : M.mg "range" = none) :
    FnOk M.P M.w M.K M.mg M.base CX0 (k + 1) f fd ["_law_one", "_law_other"] (SpD M.K [true, true] (fun p : List Nat × List Nat => [.str (tx p.1), .str (tx p.2)]) (fun p => Row p.1 ∧ Row p.2 ∧ p.1.length ≤ 300 ∧ p.2.length ≤ 300) (fun p d => d = .non ∨ ∃ s, d = encS s ∧ StepOk p.1 p.2 s)) := by
  refine fn_ok F S_lstep rfl fun X S ⟨one, oth⟩ ⟨hr, ho, hl, hl2⟩ => ?_
  dsimp only at hr ho hl hl2
  show DB X _ [some (.d (.str (tx one))), some (.d (.str (tx oth))), none, none] _ _ _ _
  have hS : ∀ l : List Nat, l.length ≤ 300000 → (tx l).length ≤ sizeLine := fun l hl => by rw [len_tx]; exact sl1 (by omega)
  have hbl := back_len oth
  refine db_cons (ds_for S (di_range1 S mr (by walk_at "dk") ?_))
  walk_at "go"
  refine bw_lenS (hS one (by omega)) ?_
  rw [len_tx]
  refine ⟨_, rfl, by omega, by omega, ?_⟩
  refine ⟨fun i δ => ∃ a b : Option SD, δ = [some (.d (.str (tx one))), some (.d (.str (tx oth))), a, b], ⟨_, _, rfl⟩, ?_, ?_⟩
  · rintro i d δ' hi ⟨a, b, rfl⟩
    obtain ⟨hin, rfl⟩ := rangeD_get hi
    have hin : i < one.length := by omega
    rw [Int.zero_add]
    refine ⟨_, dg_name S (by walk_at "dk") ⟨_, by walk_at "ss", ?_⟩⟩
    walk_at "go"
    refine ⟨_, rfl, .str (hS one (by omega)) ?_⟩
    rw [cut_to one (by omega)]
    walk_at "go"
    refine ⟨_, rfl, .str (hS one (by omega)) ?_⟩
    rw [cut_from one (by omega)]
    walk_at "go"
    rotate_left
    · rw [len_tx, len_tx]; exact sl1 (by simp; omega)
    rw [app_tx, show ((i : Int)).toNat = i by omega, show ((i : Int) + 1).toNat = i + 1 by omega]
    refine ⟨outR one i, rfl, ⟨fun z hz => ?_, by show (one.take i ++ one.drop (i + 1)).length ≤ 100000; simp; omega⟩, ?_⟩
    · rcases List.mem_append.mp hz with hz | hz
      · exact hr z (List.mem_of_mem_take hz)
      · exact hr z (List.mem_of_mem_drop hz)
    rintro _ rfl
    walk_at "go"
    refine .eqS rfl ⟨fun h => ?_, fun h => ?_⟩
    · have h := tx_str (of_decide_eq_true h)
      walk_at "go"
      exact .inr ⟨(i, none), rfl, hin, h⟩
    · walk_at "go"
      exact ⟨_, _, rfl⟩
  rintro δ' ⟨a, b, rfl⟩
  refine db_cons (ds_for S (di_range1 S mr (by walk_at "dk") ?_))
  walk_at "go"
  refine bw_lenS (hS one (by omega)) ?_
  rw [len_tx]
  walk_at "go"
  refine ⟨_, rfl, by omega, by omega, ?_⟩
  refine ⟨fun i δ => ∃ a b : Option SD, δ = [some (.d (.str (tx one))), some (.d (.str (tx oth))), a, b], ⟨_, _, rfl⟩, ?_, ?_⟩
  · rintro i d δ' hi ⟨a, b, rfl⟩
    obtain ⟨hin, rfl⟩ := rangeD_get hi
    have hin : i ≤ one.length := by omega
    rw [Int.zero_add]
    refine ⟨_, dg_name S (by walk_at "dk") ⟨_, by walk_at "ss", ?_⟩⟩
    refine db_cons (ds_for S (di_str ?_))
    walk_at "go"
    refine ⟨oth, rfl, ⟨ho, by omega⟩, ?_⟩
    rintro _ rfl
    walk_at "go"
    rotate_left
    · rw [len_tx, len_tx]; exact sl1 (by omega)
    rw [app_tx]
    refine ⟨_, rfl, ?_⟩
    rw [chars_tx]
    refine ⟨fun _ δ => ∃ b : Option SD, δ = [some (.d (.str (tx one))), some (.d (.str (tx oth))), some (.d (.int (i : Nat))), b], ⟨_, rfl⟩, ?_, ?_⟩
    · rintro j d δ' hj ⟨b, rfl⟩
      rw [List.getElem?_map] at hj
      obtain ⟨c, hc, rfl⟩ := Option.map_eq_some_iff.mp hj
      have hcm := List.mem_append.mp (List.mem_of_getElem? hc)
      have hcT : IsT c := hcm.elim (ho c) (back_row ho c)
      refine ⟨_, dg_name S (by walk_at "dk") ⟨_, by walk_at "ss", ?_⟩⟩
      walk_at "go"
      refine ⟨_, rfl, .str (hS one (by omega)) ?_⟩
      rw [cut_to one (by omega)]
      walk_at "go"
      rotate_left
      · rw [len_tx, len_tx]; exact sl1 (by simp; omega)
      rw [app_tx]
      walk_at "go"
      refine ⟨_, rfl, .str (hS one (by omega)) ?_⟩
      rw [cut_from one (by omega)]
      walk_at "go"
      rotate_left
      · rw [len_tx, len_tx]; exact sl1 (by simp; omega)
      rw [app_tx, show ((i : Int)).toNat = i by omega]
      have e : one.take i ++ [c] ++ one.drop i = putR one i c := by unfold putR; simp
      rw [e]
      refine ⟨putR one i c, rfl, ⟨fun z hz => ?_, by show (one.take i ++ c :: one.drop i).length ≤ 100000; simp; omega⟩, ?_⟩
      · rcases List.mem_append.mp hz with hz | hz
        · exact hr z (List.mem_of_mem_take hz)
        · rcases List.mem_cons.mp hz with rfl | hz
          · exact hcT
          · exact hr z (List.mem_of_mem_drop hz)
      rintro _ rfl
      walk_at "go"
      refine .eqS rfl ⟨fun h => ?_, fun h => ?_⟩
      · have h := tx_str (of_decide_eq_true h)
        walk_at "go"
        exact .inr ⟨(i, some c), rfl, hin, hcm, h⟩
      · walk_at "go"
        exact ⟨_, rfl⟩
    · rintro δ' ⟨b, rfl⟩
      walk_at "go"
      exact ⟨_, _, rfl⟩
  · rintro δ' ⟨a, b, rfl⟩
    walk_at "go"
    exact .inl rfl
end

/-! ### a cord led by steps -/
def stepCost (w : Nat → Option Int) (r : List Nat) : Stp → Option Int
  | (i, none) => w (r.getD i 0)
  | (_, some c) => w c
inductive Led (fl : Floor) : List Nat → List Stp → List Nat → Int → Prop
  | nil {r : List Nat} : RowOf fl r → r.length ≤ 40 → Led fl r [] r 0
  | cons {r r1 z : List Nat} {s : Stp} {ss : List Stp} {v n : Int} : RowOf fl r → r.length ≤ 40 → StepOk r r1 s → stepCost (wF fl) r s = some v → Led fl r1 ss z n → Led fl r (s :: ss) z (v + n)
theorem Led.row {fl : Floor} {r z : List Nat} {ss : List Stp} {n : Int} (h : Led fl r ss z n) : RowOf fl r ∧ r.length ≤ 40 := by
  cases h with
  | nil h1 h2 => exact ⟨h1, h2⟩
  | cons h1 h2 _ _ _ => exact ⟨h1, h2⟩
theorem step_cost {w : Nat → Option Int} (W : WOk w) {x y : List Nat} {s : Stp} (hx : Row x) (hy : Row y) (ex : tight x = x) (h : StepOk x y s) : lstep w x y = stepCost w x s := by
  obtain ⟨i, o⟩ := s
  cases o with
  | none =>
    obtain ⟨hi, rfl⟩ := h
    have e : outR x i = x.eraseIdx i := (erase_split hi).2.symm
    have h1 := (lstep_del W hx hi).1
    rw [ex, ← e] at h1
    exact h1
  | some c =>
    obtain ⟨hi, hc, rfl⟩ := h
    have hcT : IsT c := hc.elim (hy c) (back_row hy c)
    have h1 : Row (x.take i) := fun z hz => hx z (List.mem_of_mem_take hz)
    have h2 : Row (x.drop i) := fun z hz => hx z (List.mem_of_mem_drop hz)
    have h3 : Row (putR x i c) := fun z hz => by
      rcases List.mem_append.mp hz with hz | hz
      · exact h1 z hz
      · rcases List.mem_cons.mp hz with rfl | hz
        · exact hcT
        · exact h2 z hz
    have k1 := chg_ins h1 h2 hcT
    rw [List.take_append_drop] at k1
    have k2 := chg_tight hx h3
    rw [ex] at k2
    show (chg x (tight (putR x i c))).bind w = w c
    rw [k2]
    show (chg x (x.take i ++ c :: x.drop i)).bind w = w c
    rw [k1]
    rfl
theorem led_of {fl : Floor} (hf : FloorOk fl) (W : WOk (wF fl)) : ∀ {ts : List (List Nat)} {ss : List Stp} {a z : List Nat} {n : Int}, (∀ t ∈ ts, RowOf fl t ∧ t.length ≤ 40 ∧ tight t = t) → ts.head? = some a → ts.getLast? = some z → lcR (wF fl) ts = some n → ss.length + 1 = ts.length →
    (∀ (i : Nat) s x y, ss[i]? = some s → ts[i]? = some x → ts[i + 1]? = some y → StepOk x y s) → Led fl a ss z n
  | [], _, _, _, _, _, h, _, _, _, _ => by cases h
  | [t], ss, a, z, n, hr, h1, h2, h3, hl, _ => by
    cases h1
    cases h2
    have h3 : some (0 : Int) = some n := h3
    cases h3
    have e : ss = [] := List.length_eq_zero_iff.mp (by simpa using hl)
    subst e
    obtain ⟨r1, r2, _⟩ := hr t (by simp)
    exact .nil r1 r2
  | t :: u :: ts, ss, a, z, n, hr, h1, h2, h3, hl, hs => by
    cases h1
    have h3 : oplus (lstep (wF fl) t u) (lcR (wF fl) (u :: ts)) = some n := h3
    obtain ⟨x, y, e1, e2, rfl⟩ := oplus_some h3
    have h2 : (u :: ts).getLast? = some z := by rw [← h2]; exact (List.getLast?_cons_cons).symm
    match ss, hl, hs with
    | s :: ss, hl, hs =>
      have ih := led_of hf W (ts := u :: ts) (ss := ss) (a := u) (fun t ht => hr t (List.mem_cons_of_mem _ ht)) rfl h2 e2 (by simpa using hl) fun i s' x' y' g1 g2 g3 => hs (i + 1) s' x' y' g1 g2 g3
      obtain ⟨r1, r2, r3⟩ := hr t (by simp)
      obtain ⟨q1, q2, q3⟩ := hr u (by simp)
      have ok := hs 0 s t u rfl rfl rfl
      refine .cons r1 r2 ok ?_ ih
      rw [← step_cost W (r1.row hf) (q1.row hf) r3 ok]
      exact e1
theorem HalOk.kept {h : Hal} (o : HalOk h) {n : Str} {q r : List Nat} {c : Int} (hr : rowAt h.now.1 n = some q) (hl : h.fm.length < 800000) : HalOk (h.kept n r c) :=
  ⟨o.fl, keep_nd o.nd, Nat.le_trans (keep_len_old hr) o.len, by show (h.fm ++ [h.now]).length < 900000; rw [List.length_append, List.length_singleton]; omega⟩
theorem HalOk.keptNew {h : Hal} (o : HalOk h) {n : Str} {r : List Nat} {c : Int} (h6 : h.now.1.length < 6) (hl : h.fm.length < 800000) : HalOk (h.kept n r c) :=
  ⟨o.fl, keep_nd o.nd, by have := keep_len_new (ks := h.now.1) (n := n) (r := r); show (keepL h.now.1 n r).length ≤ 6; omega, by show (h.fm ++ [h.now]).length < 900000; rw [List.length_append, List.length_singleton]; omega⟩
/-- a hall that has come from another one by so many deeds on one cord -/
structure LedTo (h : Hal) (nm : Str) (z : List Nat) (n : Int) (j : Nat) (h' : Hal) : Prop where
  fl : h'.fl = h.fl
  at_ : rowAt h'.now.1 nm = some z
  paid : h'.now.2 = h.now.2 + n
  oth : ∀ m, m ≠ nm → rowAt h'.now.1 m = rowAt h.now.1 m
  past : ∃ S : List (Cords × Int), S.length = j ∧ h'.fm ++ [h'.now] = h.fm ++ h.now :: S
  ok : HalOk h'
theorem LedTo.refl {h : Hal} (o : HalOk h) {nm : Str} {z : List Nat} (hz : rowAt h.now.1 nm = some z) : LedTo h nm z 0 0 h := ⟨rfl, hz, by omega, fun _ _ => rfl, ⟨[], rfl, rfl⟩, o⟩
theorem LedTo.len {h h' : Hal} {nm : Str} {z : List Nat} {n : Int} {j : Nat} (t : LedTo h nm z n j h') : h'.fm.length = h.fm.length + j := by
  obtain ⟨S, rfl, e⟩ := t.past
  have := congrArg List.length e
  simp at this
  omega
theorem LedTo.kept {h h' : Hal} {nm : Str} {r z : List Nat} {n v : Int} {j : Nat} (t : LedTo h nm r n j h') (hl : h.fm.length + j < 800000) : LedTo h nm z (n + v) (j + 1) (h'.kept nm z v) := by
  have hlen := t.len
  refine ⟨t.fl, ?_, ?_, fun m hm => ?_, ?_, t.ok.kept t.at_ (by omega)⟩
  · show rowAt (keepL h'.now.1 nm z) nm = _
    rw [rowAt_keep, if_pos rfl]
  · show h'.now.2 + v = _
    rw [t.paid]
    omega
  · show rowAt (keepL h'.now.1 nm z) m = _
    rw [rowAt_keep, if_neg hm]
    exact t.oth m hm
  · obtain ⟨S, rfl, e⟩ := t.past
    refine ⟨S ++ [(keepL h'.now.1 nm z, h'.now.2 + v)], by simp, ?_⟩
    show (h'.fm ++ [h'.now]) ++ [_] = _
    rw [e, List.append_assoc]
    rfl
abbrev LedZ := (Addr × Addr × Hal) × Str × List Nat × List Stp × List Nat × Int
abbrev LedA (p : LedZ) : List Da := [.str p.2.1, .lst (p.2.2.2.1.map encS)]
abbrev LedPre (p : LedZ) : Prop := HalOk p.1.2.2 ∧ rowAt p.1.2.2.now.1 p.2.1 = some p.2.2.1 ∧ Led p.1.2.2.fl p.2.2.1 p.2.2.2.1 p.2.2.2.2.1 p.2.2.2.2.2 ∧ p.1.2.2.fm.length + p.2.2.2.1.length ≤ 100000
abbrev LedPost (C : Addr) (p : LedZ) (d : Da) (s' : HSt) : Prop := d = .int (p.1.2.2.now.2 + p.2.2.2.2.2) ∧ ∃ h', s' = hst C (p.1.1, p.1.2.1, h') ∧ LedTo p.1.2.2 p.2.1 p.2.2.2.2.1 p.2.2.2.2.2 p.2.2.2.1.length h'
abbrev LedC (M : Md) (k : Nat) (C : Addr) : Prop := CalF M k "_law_led" [true, true] LedA (fun p => hst C p.1) LedPre (LedPost C)
section
variable {M : Md} {k : Nat} {C : Addr}
theorem ok_lled {f : Addr} {fd : FuncData} (F : Fun M.K "_law_led" "_law_led" s_lled f fd) (hk : HallK M.K C) (cO : OutC M k C) (cP : PutC M k C) (cPa : PaidC M k C) :
    FnOk M.P M.w M.K M.mg M.base CX0 (k + 1) f fd ["_law_hall", "_law_name", "_law_steps"] (SpM M.K [true, true] LedA (fun p => hst C p.1) LedPre (LedPost C)) := by
  refine fnm_ok F S_lled rfl fun X S ⟨⟨a, la, h⟩, nm, r, ss, z, n⟩ ⟨ho, hr, hL, hl⟩ => ?_
  dsimp only at ho hr hL hl
  show DBm X (hst C (a, la, h)) _ [some (.hb (hst C (a, la, h))), some (.d (.str nm)), some (.d (.lst (ss.map encS))), none, none] _ _
  refine dbm_for S (di_lst ?_)
  walk_at "go"
  refine ⟨_, rfl, fun i δ => ∃ (h1 : Hal) (r1 : List Nat) (m m2 : Int) (x y : Option SD), δ = [some (.hb (hst C (a, la, h1))), some (.d (.str nm)), some (.d (.lst (ss.map encS))), x, y] ∧ LedTo h nm r1 m i h1 ∧ Led h.fl r1 (ss.drop i) z m2 ∧ m + m2 = n, ?_, ?_, ?_⟩
  · exact ⟨h, r, 0, n, _, _, rfl, .refl ho hr, hL, by omega⟩
  · rintro i d δ' hi ⟨h1, r1, m, m2, x, y, rfl, T, hL1, hm⟩
    rw [List.getElem?_map] at hi
    obtain ⟨s, hs, rfl⟩ := Option.map_eq_some_iff.mp hi
    obtain ⟨hil, es⟩ := List.getElem?_eq_some_iff.mp hs
    rw [List.drop_eq_getElem_cons hil, es] at hL1
    have hlen := T.len
    have hfl := T.fl
    cases hL1 with
    | @cons _ r2 _ _ _ v m3 q1 q2 q3 q4 q5 =>
    have hT2 : LedTo h nm r2 (m + v) (i + 1) (h1.kept nm r2 v) := T.kept (by omega)
    obtain ⟨j, o⟩ := s
    cases o with
    | none =>
      obtain ⟨hj, rfl⟩ := q3
      refine ⟨_, dg_tup S (dgs_cons (dg_name S (by walk_at "dk") ⟨_, by walk_at "ss", dgs_cons (dg_name S (by walk_at "dk") ⟨_, by walk_at "ss", dgs_nil ?_⟩)⟩))⟩
      refine dbm_if ?_
      walk_at "go"
      refine .eqS rfl ?_
      rw [decide_eq_true (by rfl)]
      refine spT ?_
      walk_at "go"
      refine ⟨((a, la, h1), nm, r1, j, v), rfl, rfl, ⟨T.ok, ⟨T.at_, by rw [hfl]; exact q1, q2⟩, r1.getD j 0, ?_, by show wF h1.fl _ = _; rw [hfl]; exact q4⟩, ?_⟩
      · show r1[j]? = some _
        rw [List.getD_eq_getElem?_getD, List.getElem?_eq_getElem hj]
        rfl
      rintro _ s' e1 e2 e3 rfl
      refine ⟨_, by walk_at "ss", ?_⟩
      exact dbm_nil (dbm_nil ⟨h1.kept nm (tight (outR r1 j)) v, _, m + v, m3, _, _, rfl, hT2, q5, by omega⟩)
    | some c =>
      obtain ⟨hj, hc, rfl⟩ := q3
      obtain ⟨p1, p2⟩ := q5.row
      have hcm : c ∈ turnsF h.fl := hc.elim (p1 c) (p1.back (hfl ▸ T.ok.fl) c)
      refine ⟨_, dg_tup S (dgs_cons (dg_name S (by walk_at "dk") ⟨_, by walk_at "ss", dgs_cons (dg_name S (by walk_at "dk") ⟨_, by walk_at "ss", dgs_nil ?_⟩)⟩))⟩
      refine dbm_if ?_
      walk_at "go"
      refine .eqS rfl ⟨fun q => absurd (of_decide_eq_true q) (fun z => nomatch (show [c] = [] from congrArg (fun y : Str => y.cps.toList) (V.str.inj z))), fun _ => ?_⟩
      walk_at "go"
      refine ⟨((a, la, h1), nm, r1, j, c, v), rfl, rfl, ⟨T.ok, ⟨T.at_, by rw [hfl]; exact q1, q2⟩, hj, by show c ∈ turnsF h1.fl; rw [hfl]; exact hcm, by show wF h1.fl _ = _; rw [hfl]; exact q4, by show (tight (r1.take j ++ c :: r1.drop j)).length ≤ 40; exact p2⟩, ?_⟩
      rintro _ s' e1 e2 e3 rfl
      refine ⟨_, by walk_at "ss", ?_⟩
      exact dbm_nil (dbm_nil ⟨h1.kept nm (tight (putR r1 j c)) v, _, m + v, m3, _, _, rfl, hT2, q5, by omega⟩)
  · rintro δ' ⟨h1, r1, m, m2, x, y, rfl, T, hL1, hm⟩
    rw [List.length_map] at T hL1
    rw [List.drop_length] at hL1
    cases hL1
    walk_at "go"
    refine ⟨(a, la, h1), rfl, rfl, trivial, ?_⟩
    rintro _ rfl
    have em : m = n := by omega
    subst em
    exact ⟨_, _, rfl, rfl, rfl, rfl, congrArg Da.int T.paid, h1, rfl, T⟩
end

/-! ### mathematics of a hall -/
theorem row_out {r : List Nat} (h : Row r) (i : Nat) : Row (outR r i) := fun z hz => (List.mem_append.mp hz).elim (fun q => h z (List.mem_of_mem_take q)) fun q => h z (List.mem_of_mem_drop q)
theorem row_put {r : List Nat} (h : Row r) (i : Nat) {c : Nat} (hc : IsT c) : Row (putR r i c) := fun z hz => by
  rcases List.mem_append.mp hz with hz | hz
  · exact h z (List.mem_of_mem_take hz)
  · rcases List.mem_cons.mp hz with rfl | hz
    · exact hc
    · exact h z (List.mem_of_mem_drop hz)
section
variable {w : Nat → Option Int}
theorem ole_out (W : WOk w) {r : List Nat} {i : Nat} {v : Int} (hr : Row r) (hi : i < r.length) (hv : w (r.getD i 0) = some v) : Ole (L w r) (oplus (L w (tight (outR r i))) (some v)) := fun n e => by
  rw [L_tight W (row_out hr i)] at e
  obtain ⟨x, y, e1, e2, rfl⟩ := oplus_some e
  cases e2
  have c := (L_some W e1 : Cst w (r.take i ++ r.drop (i + 1)) x).put (row_getD hr hi) hv
  rw [← (erase_split hi).1] at c
  exact L_le W c
theorem ole_put (W : WOk w) {r : List Nat} {i c : Nat} {v : Int} (hr : Row r) (hc : IsT c) (hv : w c = some v) : Ole (L w r) (oplus (L w (tight (putR r i c))) (some v)) := fun n e => by
  rw [L_tight W (row_put hr i hc)] at e
  obtain ⟨x, y, e1, e2, rfl⟩ := oplus_some e
  cases e2
  obtain ⟨m, hm, hcst⟩ := (L_some W e1 : Cst w (r.take i ++ c :: r.drop i) x).out W hv
  rw [List.take_append_drop] at hcst
  obtain ⟨k, e3, hk⟩ := L_le W hcst
  exact ⟨k, e3, by omega⟩
theorem ole_step {a b c : Option Int} {p v : Int} (h : Ole a (oplus b (some p))) (g : Ole b (oplus c (some v))) : Ole a (oplus c (some (p + v))) := fun n e => by
  obtain ⟨x, y, rfl, e2, rfl⟩ := oplus_some e
  cases e2
  obtain ⟨m, rfl, hm⟩ := g (x + v) rfl
  obtain ⟨k, e3, hk⟩ := h (m + p) rfl
  exact ⟨k, e3, by omega⟩
end
theorem mergeK_nd : ∀ (l done : List (Str × Str)), ((done ++ l).map (·.1)).Nodup → mergeK (done.map entX) (l.map entX) = (done ++ l).map entX
  | [], done, _ => by simp [mergeK]
  | e :: l, done, h => by
    have hn : ∀ x ∈ done, x.1 ≠ e.1 := fun x hx z => by
      rw [List.map_append, List.nodup_append] at h
      exact h.2.2 x.1 (List.mem_map.mpr ⟨x, hx, rfl⟩) e.1 (List.mem_map.mpr ⟨e, List.mem_cons_self, rfl⟩) z
    show mergeK (putK (done.map entX) (Sum.inr e.1) (.str e.2)) (l.map entX) = _
    rw [putK_new (valV_no hn)]
    have := mergeK_nd l (done ++ [e]) (by simpa using h)
    rw [List.map_append] at this
    rw [show (done ++ e :: l) = (done ++ [e]) ++ l by simp, ← this]
    rfl
theorem rowAt_perm {qs ks : Cords} {n : Str} {r : List Nat} (p : qs.Perm ks) (nd : (ks.map (·.1)).Nodup) (h : rowAt ks n = some r) : rowAt qs n = some r := by
  unfold rowAt at h ⊢
  obtain ⟨x, hx, rfl⟩ := Option.map_eq_some_iff.mp h
  have hxm := List.mem_of_find?_eq_some hx
  have hxn : x.1 = n := of_decide_eq_true (by simpa using List.find?_some hx)
  have hq : x ∈ qs := p.mem_iff.mpr hxm
  cases hf : qs.find? fun e => decide (e.1 = n) with
  | none =>
    have := List.find?_eq_none.mp hf x hq
    simp [hxn] at this
  | some y =>
    have hym := p.mem_iff.mp (List.mem_of_find?_eq_some hf)
    have hyn : y.1 = n := of_decide_eq_true (by simpa using List.find?_some hf)
    obtain ⟨i, hi⟩ := List.mem_iff_getElem?.mp hxm
    obtain ⟨j, hj⟩ := List.mem_iff_getElem?.mp hym
    have e1 : (ks.map (·.1))[i]? = some n := by rw [List.getElem?_map, hi, ← hxn]; rfl
    have e2 : (ks.map (·.1))[j]? = some n := by rw [List.getElem?_map, hj, ← hyn]; rfl
    have eij := (List.getElem?_inj (List.getElem?_eq_some_iff.mp e1).1 nd).mp (e1.trans e2.symm)
    rw [eij, hj] at hi
    rw [Option.some.inj hi]
    rfl
/-- the row of a name, by way of dict(cords) -/
theorem cords_at {qs ks : Cords} {n : Str} {r : List Nat} (p : qs.Perm ks) (nd : (ks.map (·.1)).Nodup) (h : rowAt ks n = some r) : valV (mergeK [] ((tk qs).map entX)) (Sum.inr n) = some (V.str (tx r)) := by
  have nq : (qs.map (·.1)).Nodup := (p.map (·.1)).nodup_iff.mpr nd
  have := mergeK_nd (tk qs) [] (by rw [List.nil_append]; exact tk_nd nq)
  rw [List.map_nil, List.nil_append] at this
  rw [this, valV_tk, rowAt_perm p nd h]
  rfl
theorem isNo_enc (o : Option Int) : isNo (encO o) = o.isNone := by cases o <;> rfl
/-- steps, each told -/
theorem steps_of : ∀ {rs : List Da}, (∀ d ∈ rs, d ≠ .non) → (∀ d ∈ rs, d = .non ∨ ∃ s, d = encS s) → ∃ ss : List Stp, rs = ss.map encS
  | [], _, _ => ⟨[], rfl⟩
  | d :: rs, h, g => by
    obtain ⟨ss, rfl⟩ := steps_of (fun d hd => h d (List.mem_cons_of_mem _ hd)) fun d hd => g d (List.mem_cons_of_mem _ hd)
    rcases g d List.mem_cons_self with e | ⟨s, rfl⟩
    · exact absurd e (h d List.mem_cons_self)
    · exact ⟨s :: ss, rfl⟩
theorem encS_inj {s t : Stp} (h : encS s = encS t) : s = t := by
  obtain ⟨i, o⟩ := s
  obtain ⟨j, p⟩ := t
  cases o with
  | none =>
    cases p with
    | none => 
      have : (i : Int) = j := by cases h; rfl
      rw [Int.ofNat_inj.mp this]
    | some d => cases h
  | some c =>
    cases p with
    | none => cases h
    | some d =>
      have h1 : (i : Int) = j := by injection h with h; injection h with h1 h2; injection h1 with h1; injection h1
      have h2 : tx [c] = tx [d] := by injection h with h; injection h with h1 h2; injection h2 with h2; injection h2 with h2; injection h2
      have h3 : [c] = [d] := congrArg (fun z : Str => z.cps.toList) h2
      cases h3
      rw [Int.ofNat_inj.mp h1]
theorem zip_tL (ts : List (List Nat)) : zipD (tL ts) ((tL ts).drop (Int.toNat 1)) = (ts.zip (ts.drop 1)).map fun p => Da.tup [Da.str (tx p.1), Da.str (tx p.2)] := by
  unfold zipD tL
  rw [show Int.toNat 1 = 1 from rfl, ← List.map_drop, List.zip_map, List.map_map]
  rfl
theorem shp_step {s : Stp} (h : ∀ c, s.2 = some c → IsT c) : Shp 1 (encS s) := by
  obtain ⟨i, o⟩ := s
  cases o with
  | none =>
    refine .tup fun d hd => ?_
    rcases List.mem_cons.mp hd with rfl | hd
    · exact .int _
    · rw [List.mem_singleton.mp hd]
      exact .str (by decide +kernel)
  | some c =>
    refine .tup fun d hd => ?_
    rcases List.mem_cons.mp hd with rfl | hd
    · exact .int _
    · rw [List.mem_singleton.mp hd]
      have := (h c rfl).lt
      exact .str (strOk_sg (by omega))
theorem no_non {rs : List Da} (h : (!(rs.map Da.py).any fun z => PyData.eqv z (Da.py .non)) = true) : ∀ d ∈ rs, d ≠ .non := by
  intro d hd e
  subst e
  have : (rs.map Da.py).any (fun z => PyData.eqv z (Da.py .non)) = true := List.any_eq_true.mpr ⟨Da.py .non, List.mem_map.mpr ⟨_, hd, rfl⟩, by simp [Da.py, PyData.eqv]⟩
  rw [this] at h
  cases h

/-! ### the law -/
abbrev annS : Str := "ann"
abbrev beaS : Str := "bea"
theorem ann_ok : NameOk annS := ⟨by decide +kernel, by decide +kernel, by decide +kernel⟩
theorem bea_ok : NameOk beaS := ⟨by decide +kernel, by decide +kernel, by decide +kernel⟩
theorem ne_ab : beaS ≠ annS := by decide +kernel
theorem ne_ba : annS ≠ beaS := by decide +kernel
def hal0 (fl : Floor) : Hal := ⟨fl, ([], 0), []⟩
theorem hal0_ok {fl : Floor} (hf : FloorOk fl) : HalOk (hal0 fl) := ⟨hf, .nil, by show 0 ≤ 6; decide, by show 0 < 900000; decide⟩
/-- a hall with two cords -/
structure Two (fl : Floor) (a b : List Nat) (n : Nat) (p : Int) (h : Hal) : Prop where
  fl : h.fl = fl
  ann : rowAt h.now.1 annS = some a
  bea : rowAt h.now.1 beaS = some b
  paid : h.now.2 = p
  len : h.fm.length ≤ n
  ok : HalOk h
theorem keep1_len (n : Str) (r : List Nat) : (keepL [] n r).length < 6 := by
  have := keep_len_new (ks := []) (n := n) (r := r)
  have e : ([] : Cords).length = 0 := rfl
  omega
theorem two_start {fl : Floor} (hf : FloorOk fl) (a b : List Nat) : Two fl a b 2 0 (((hal0 fl).kept annS a 0).kept beaS b 0) := by
  have h1 := (hal0_ok hf).keptNew (n := annS) (r := a) (c := 0) (by show 0 < 6; decide) (by show 0 < 800000; decide)
  refine ⟨rfl, ?_, ?_, rfl, Nat.le_refl _, h1.keptNew (keep1_len _ _) (by show 1 < 800000; decide)⟩
  · show rowAt (keepL (keepL [] annS a) beaS b) annS = _
    rw [rowAt_keep, if_neg ne_ba, rowAt_keep, if_pos rfl]
  · show rowAt (keepL (keepL [] annS a) beaS b) beaS = _
    rw [rowAt_keep, if_pos rfl]
theorem Two.kept {fl : Floor} {a b z : List Nat} {n : Nat} {p v : Int} {h : Hal} (t : Two fl a b n p h) (hn : n < 800000) : Two fl z b (n + 1) (p + v) (h.kept annS z v) := by
  refine ⟨t.fl, ?_, ?_, by show h.now.2 + v = _; rw [t.paid], by have := t.len; show (h.fm ++ [h.now]).length ≤ _; rw [List.length_append, List.length_singleton]; omega, t.ok.kept t.ann (by have := t.len; omega)⟩
  · show rowAt (keepL h.now.1 annS z) annS = _
    rw [rowAt_keep, if_pos rfl]
  · show rowAt (keepL h.now.1 annS z) beaS = _
    rw [rowAt_keep, if_neg ne_ab]
    exact t.bea
theorem tight_of {fl : Floor} {r : List Nat} (h : RowOf fl r) : RowOf fl (tight r) := h.sub (tight_sub r)
section
variable {M : Md} {k : Nat} {C : Addr}
theorem ok_law {f : Addr} {fd : FuncData} (F : Fun M.K "law" "law" s_law f fd) (hk : HallK M.K C) (cDs : DrawsC M (k + 1)) (cD : DrawC M (k + 1)) (cO : OfC M (k + 1)) (cF : FloorC M (k + 1)) (cR : RowC M (k + 1)) (cMk : MakeC M k C) (cLay : LayC M (k + 1) C) (cLe : LeftC M (k + 1) C) (cAp : ApartC M (k + 1) C)
    (cLg : LiftsC M (k + 1)) (cSt : StepC M (k + 1)) (cLd : LedC M (k + 1) C) (cBk : HBackC M (k + 1) C) (cCo : CordsC M (k + 1) C) (cC : LCostsC M (k + 1)) (cPr : PricedC M (k + 1)) (cOut : OutC M (k + 1) C) (cPut : PutC M (k + 1) C) (cBl : LBelowC M (k + 1)) (cP : LPlusC M (k + 1)) (cPa : PaidC M (k + 1) C) (cLo : LayOnC M (k + 1) C) (cLs : LeastC M (k + 1))
    (ml : M.mg "len" = none) (mr : M.mg "range" = none) (mn : M.mg "min" = none) (mx : M.mg "max" = none) (mz : M.mg "zip" = none) (md : M.mg "dict" = none) :
    FnOk M.P M.w M.K M.mg M.base CX0 (k + 2) f fd ["_law_script"] (SpD M.K [true] (fun ns : List Int => [.scr ns]) (fun ns => ns.length ≤ 63) (fun _ d => d = .bl true)) := by
  refine fn_ok F S_law rfl fun X S ns hns => ?_
  show DB X _ [some (.d (.scr ns)), none, none, none, none, none, none, none, none, none, none, none, none, none, none, none, none, none] _ _ _ _
  refine db_cons (ds_for S (di_range1 S mr (by walk_at "dk") ?_))
  walk_at "go"
  refine bw_lenC ?_
  walk_at "go"
  refine bw_min S ?_
  walk_at "go"
  refine bw_max S ?_
  obtain ⟨n, hn, hn2⟩ : ∃ n : Nat, (if (if (ns.length : Int) < 6 then (ns.length : Int) else 6) > 1 then (if (ns.length : Int) < 6 then (ns.length : Int) else 6) else 1) = (n : Int) ∧ n ≤ 6 := by
    by_cases h1 : (ns.length : Int) < 6
    · rw [if_pos h1]
      by_cases h2 : (ns.length : Int) > 1
      · exact ⟨ns.length, by rw [if_pos h2], by omega⟩
      · exact ⟨1, by rw [if_neg h2]; rfl, by omega⟩
    · rw [if_neg h1]
      exact ⟨6, by decide, by omega⟩
  rw [hn]
  refine ⟨_, rfl, by omega, by omega, ?_⟩
  refine ⟨fun i δ => δ = [some (.d (.scr ns)), none, none, none, none, none, none, none, none, none, none, none, none, none, none, none, none, none], rfl, ?_, ?_⟩
  rotate_left
  · rintro δ' rfl
    walk_at "go"
    rfl
  rintro i d δ' hi rfl
  obtain ⟨hin, rfl⟩ := rangeD_get hi
  have hin2 : i < 6 := by omega
  refine ⟨_, dg_name S (by walk_at "dk") ⟨_, by walk_at "ss", ?_⟩⟩
  walk_at "go"
  refine ⟨(ns, 0 + (i : Int)), rfl, ⟨hns, by omega, by omega⟩, ?_⟩
  rintro _ rfl
  refine ⟨_, by walk_at "ss", ?_⟩
  walk_at "go"
  refine ⟨4, rfl, ⟨by decide, by decide⟩, ?_⟩
  rintro _ ⟨fl, rfl, hf, _⟩
  refine ⟨_, by walk_at "ss", ?_⟩
  have W := wF_ok hf
  refine db_new3 S cMk (by walk_at "dk") rfl ?_ (by decide) (by decide) (by decide) (by walk_at "dk") (by walk_at "dk") (by walk_at "dk") (by intro env h; cases env; cases h; rfl) (by walk_at "dk") (by walk_at "dk") (by walk_at "dk")
  walk_at "go"
  refine ⟨⟨fl, hf, rfl⟩, ?_⟩
  walk_at "go"
  refine ⟨(fl, 12), rfl, ⟨hf, by show (0 : Int) ≤ 12; decide, by show (12 : Int) ≤ 1000; decide⟩, ?_⟩
  rintro _ ⟨one, rfl, ho, hol⟩
  dsimp only at ho hol
  walk_at "go"
  refine ⟨(fl, 12), rfl, ⟨hf, by show (0 : Int) ≤ 12; decide, by show (12 : Int) ≤ 1000; decide⟩, ?_⟩
  rintro _ ⟨oth, rfl, ht, htl⟩
  dsimp only at ht htl
  rintro ⟨a, la, C', d1, d2, l3⟩ e1 e2 e3 e4
  obtain rfl : C' = C := e1
  obtain rfl : d1 = encF fl := e2
  obtain rfl : d2 = hallD2 := e3
  obtain rfl : l3 = [] := e4
  refine ⟨_, _, _, by walk_at "ss", by walk_at "ss", by walk_at "ss", ?_⟩
  show DBm X (hst C' (a, la, hal0 fl)) _ [some (.d (.scr ns)), some (.d (.int (0 + (i : Int)))), some (.d .drw), some (.d (encF fl)), some (.hb (hst C' (a, la, hal0 fl))), some (.d (.str (tx one))), some (.d (.str (tx oth))), none, none, none, none, none, none, none, none, none, none, none] _ _
  have ro := ho.row hf
  have rt := ht.row hf
  have hto := tight_of ho
  have htt := tight_of ht
  have hlo := tight_len one
  have hlt := tight_len oth
  have T2 := two_start hf (tight one) (tight oth)
  walk_at "go"
  refine ⟨((a, la, hal0 fl), annS, one), rfl, rfl, ⟨hal0_ok hf, ann_ok, rfl, ho, by show one.length ≤ 40; omega, by show 0 < 6; decide⟩, ?_⟩
  rintro _ s' e1 e2 e3 rfl
  refine ⟨_, by walk_at "ss", ?_⟩
  walk_at "go"
  refine ⟨((a, la, (hal0 fl).kept annS (tight one) 0), beaS, oth), rfl, rfl, ⟨(hal0_ok hf).keptNew (by show 0 < 6; decide) (by show 0 < 800000; decide), bea_ok, ?_, ht, by show oth.length ≤ 40; omega, keep1_len _ _⟩, ?_⟩
  · show rowAt (keepL [] annS (tight one)) beaS = none
    rw [rowAt_keep, if_neg ne_ab]
    rfl
  rintro _ s' e1 e2 e3 rfl
  refine ⟨_, by walk_at "ss", ?_⟩
  show DBm X (hst C' (a, la, hal0 fl)) _ [some (.d (.scr ns)), some (.d (.int (0 + (i : Int)))), some (.d .drw), some (.d (encF fl)), some (.hb (hst C' (a, la, ((hal0 fl).kept annS (tight one) 0).kept beaS (tight oth) 0))), some (.d (.str (tx one))), some (.d (.str (tx oth))), none, none, none, none, none, none, none, none, none, none, none] _ _
  generalize ((hal0 fl).kept annS (tight one) 0).kept beaS (tight oth) 0 = h2 at T2 ⊢
  obtain ⟨q1, q2, q3, q4, q5, q6⟩ := id T2
  have hS : ∀ l : List Nat, l.length ≤ 300000 → (tx l).length ≤ sizeLine := fun l hl => by rw [len_tx]; exact sl1 (by omega)
  have hLE : L (wF fl) (back (tight one) ++ tight oth) = L (wF fl) (back one ++ oth) := by
    have h1 := L_tight W (r := back (tight one) ++ tight oth) (row_app2 (back_row (tight_row ro)) (tight_row rt))
    have h2 := L_tight W (r := back one ++ oth) (row_app2 (back_row ro) rt)
    rw [← h1, ← h2, ← tight_back ro, tight_parts (back_row ro) rt]
  have hsw : L (wF fl) (back (tight oth) ++ tight one) = L (wF fl) (back one ++ oth) := by
    rw [← hLE, ← L_back W (r := back (tight one) ++ tight oth) (row_app2 (back_row (tight_row ro)) (tight_row rt)), back_app, back_back (tight_row ro)]
  walk_at "go"
  refine ⟨((a, la, h2), annS, tight one), rfl, rfl, ⟨q6, q2, by show RowOf h2.fl _; rw [q1]; exact hto, by show (tight one).length ≤ 40; omega⟩, ?_⟩
  rintro d0 e
  obtain rfl : d0 = encO (L (wF fl) (tight one)) := e.trans (by show encO (L (wF h2.fl) (tight one)) = _; rw [q1])
  walk_at "go"
  refine ⟨((a, la, h2), (annS, tight one), beaS, tight oth), rfl, rfl, ⟨q6, ⟨q2, by show RowOf h2.fl _; rw [q1]; exact hto, by show (tight one).length ≤ 20; omega⟩, q3, by show RowOf h2.fl _; rw [q1]; exact htt, by show (tight oth).length ≤ 20; omega⟩, ?_⟩
  rintro d0 e
  obtain rfl : d0 = encO (L (wF fl) (back one ++ oth)) := e.trans (by show encO (L (wF h2.fl) (back (tight one) ++ tight oth)) = _; rw [q1, hLE])
  refine ⟨_, _, by walk_at "ss", by walk_at "ss", ?_⟩
  walk_at "go"
  refine ⟨(fl, one, oth), rfl, ⟨hf, ho, ht, by show one.length + oth.length ≤ 300; omega⟩, ?_⟩
  rintro rd hrd
  obtain ⟨tt, hrt, hno, hT, htr, htl2⟩ : ∃ tt : List (List Nat), ((rd = .non ∧ tt = []) ∨ rd = .lst (tL tt)) ∧ isNo rd = (L (wF fl) (back one ++ oth)).isNone ∧ (isNo rd = false → ∃ n, L (wF fl) (back one ++ oth) = some n ∧ Told (wF fl) one oth tt n) ∧ (∀ t ∈ tt, RowOf fl t ∧ t.length ≤ 24 ∧ tight t = t) ∧ tt.length ≤ 25 := by
    unfold LiftsPost at hrd
    dsimp only at hrd
    rcases hrd with ⟨h1, rfl⟩ | ⟨ts, n, h1, rfl, T⟩
    · exact ⟨[], .inl ⟨rfl, rfl⟩, by rw [h1]; rfl, (fun z => absurd z (by decide)), (fun t ht => by cases ht), by decide⟩
    · refine ⟨ts, .inr rfl, by rw [h1]; rfl, fun _ => ⟨n, h1, T⟩, fun t h => ?_, by have := T.few; omega⟩
      obtain ⟨m1, m2⟩ := T.mem t h
      exact ⟨fun c hc => (m1 c hc).elim (ho c) (ht c), by omega, T.tig t h⟩
  refine ⟨_, by walk_at "ss", ?_⟩
  refine dbm_if (dt_w (dw_or ?_))
  walk_at "go"
  refine cmp_none ?_
  walk_at "go"
  refine cmp_none ?_
  refine .neS rfl ?_
  rw [isNo_enc, hno, decide_eq_true rfl]
  refine spF (dw_or1 ?_)
  walk_at "go"
  refine ⟨((a, la, h2), (beaS, tight oth), annS, tight one), rfl, rfl, ⟨q6, ⟨q3, by show RowOf h2.fl _; rw [q1]; exact htt, by show (tight oth).length ≤ 20; omega⟩, q2, by show RowOf h2.fl _; rw [q1]; exact hto, by show (tight one).length ≤ 20; omega⟩, ?_⟩
  rintro d0 e
  obtain rfl : d0 = encO (L (wF fl) (back (tight oth) ++ tight one)) := e.trans (by show encO (L (wF h2.fl) _) = _; rw [q1])
  walk_at "go"
  refine neO hsw (spF (dbm_nil ?_))
  refine dbm_ds (ds_setLc1 S (di_zip S mz (by walk_at "dk") ?_) (by walk_at "dk") (by walk_at "dk") (by walk_at "dk"))
  refine DM.imp (Φ := fun d => d = .lst (tL tt)) ?_ fun d1 hd1 => ?_
  · refine de_orV ?_
    walk_at "go"
    rcases hrt with ⟨rfl, rfl⟩ | rfl
    · exact .non (de_one (by walk_at "go"; rfl))
    · exact .lst (fun e => de_one (by rw [e]; walk_at "go"; rfl)) fun _ => rfl
  subst hd1
  walk_at "go"
  refine DM.imp (Φ := fun d => d = .lst (tL tt)) ?_ fun d1 hd1 => ?_
  · refine de_orV ?_
    walk_at "go"
    rcases hrt with ⟨rfl, rfl⟩ | rfl
    · exact .non (de_one (by walk_at "go"; rfl))
    · exact .lst (fun e => de_one (by rw [e]; walk_at "go"; rfl)) fun _ => rfl
  subst hd1
  walk_at "go"
  refine ⟨1, rfl, ?_⟩
  walk_at "go"
  refine .lst ?_
  rw [cutL_from _ (by decide)]
  refine ⟨_, _, .inl ⟨rfl, rfl⟩, ?_⟩
  rw [zip_tL]
  have hzl : (tt.zip (tt.drop 1)).length ≤ 25 := by rw [List.length_zip]; omega
  refine lc_any (R := fun (p : List Nat × List Nat) d => d = .non ∨ ∃ s, d = encS s ∧ StepOk p.1 p.2 s) (by walk_at "wp") (by omega) (fun X1 S1 p hp => ?_) ?_
  · obtain ⟨x, y⟩ := p
    obtain ⟨m1, m2⟩ := List.of_mem_zip hp
    obtain ⟨x1, x2, x3⟩ := htr x m1
    obtain ⟨y1, y2, y3⟩ := htr y (List.mem_of_mem_drop m2)
    refine dg_tup S1 (dgs_cons (dg_name S1 (by walk_at "dk") ⟨_, by walk_at "ss", dgs_cons (dg_name S1 (by walk_at "dk") ⟨_, by walk_at "ss", dgs_nil fun X2 S2 => ?_⟩)⟩))
    walk_at "go"
    refine ⟨(x, y), rfl, ⟨x1.row hf, y1.row hf, by show x.length ≤ 300; omega, by show y.length ≤ 300; omega⟩, ?_⟩
    exact fun d hd => hd
  rintro rs hrl hR
  refine ⟨_, by walk_at "ss", ?_⟩
  have hR1 : ∀ d ∈ rs, d = .non ∨ ∃ s : Stp, d = encS s ∧ ∀ c, s.2 = some c → IsT c := fun d hd => by
    obtain ⟨j, hj⟩ := List.mem_iff_getElem?.mp hd
    have hjl := (List.getElem?_eq_some_iff.mp hj).1
    have e1 : (tt.zip (tt.drop 1))[j]? = some ((tt.zip (tt.drop 1))[j]'(by omega)) := List.getElem?_eq_getElem _
    rcases hR j _ d e1 hj with h | ⟨s, h, g⟩
    · exact .inl h
    refine .inr ⟨s, h, fun c hc => ?_⟩
    obtain ⟨m1, m2⟩ := List.of_mem_zip (List.getElem_mem (l := tt.zip (tt.drop 1)) (n := j) (by omega))
    have y1 := ((htr _ (List.mem_of_mem_drop m2)).1).row hf
    obtain ⟨i, o⟩ := s
    obtain rfl : o = some c := hc
    obtain ⟨_, g2, _⟩ := g
    exact g2.elim (y1 c) (back_row y1 c)
  have hshp : Shp 2 (.lst rs) := .lst fun d hd => by
    rcases hR1 d hd with rfl | ⟨s, rfl, hs⟩
    · exact .non
    · exact shp_step hs
  refine dbm_ifJ (fun δ' => WkS δ' [some (.d (.scr ns)), some (.d (.int (0 + (i : Int)))), some (.d .drw), some (.d (encF fl)), some (.hb (hst C' (a, la, h2))), some (.d (.str (tx one))), some (.d (.str (tx oth))), some (.d (encO (L (wF fl) (tight one)))), some (.d (encO (L (wF fl) (back one ++ oth)))), some (.d rd), some (.d (.lst rs)), none, none, none, none, none, none, none])
    (DT.imp (Φ := fun z => z = true → isNo rd = false ∧ ∀ d ∈ rs, d ≠ .non) ?_ fun z hz => ⟨fun e => ?_, fun e => dbm_nil (by walk_at "wk")⟩) ?_
  · refine dt_w (dw_and ?_)
    walk_at "go"
    refine cmp_some ⟨fun e1 => ?_, fun _ z => by cases z⟩
    refine dw_and1 (dt_notInL (n := 0) (m := 2) S (by walk_at "mk") ?_)
    walk_at "go"
    refine ⟨rs, rfl, .non, hshp, by decide, by decide, fun e2 => ⟨by simpa using e1, no_non e2⟩⟩
  · obtain ⟨e1, e2⟩ := hz e
    obtain ⟨n, hL, T⟩ := hT e1
    obtain ⟨ss, rfl⟩ := steps_of e2 fun d hd => (hR1 d hd).imp id fun ⟨s, h, _⟩ => ⟨s, h⟩
    have hssl : ss.length = (tt.zip (tt.drop 1)).length := by rw [← hrl, List.length_map]
    have hne : tt ≠ [] := fun z => by have := T.head; rw [z] at this; cases this
    have htp : 1 ≤ tt.length := by cases tt with
      | nil => exact absurd rfl hne
      | cons x y => simp
    have hLed : Led fl (tight one) ss (tight oth) n := by
      refine led_of hf W (ts := tt) (fun t h => ⟨(htr t h).1, by have := (htr t h).2.1; omega, (htr t h).2.2⟩) T.head T.last T.cost ?_ fun j s x y g1 g2 g3 => ?_
      · rw [hssl, List.length_zip, List.length_drop]
        omega
      · have e3 : (tt.zip (tt.drop 1))[j]? = some (x, y) := by
          rw [List.getElem?_zip_eq_some, List.getElem?_drop]
          exact ⟨g2, by rw [Nat.add_comm]; exact g3⟩
        have e4 : (ss.map encS)[j]? = some (encS s) := by rw [List.getElem?_map, g1]; rfl
        rcases hR j _ _ e3 e4 with h | ⟨s', h, g⟩
        · exact absurd h (e2 _ (List.mem_of_getElem? e4))
        · rw [encS_inj h]
          exact g
    have hsl : ss.length ≤ 25 := by omega
    refine dbm_ifm (dtm_or (dtm_cmp S (by walk_at "mk") (dmm_fn S cLd (by walk_at "gt") (by walk_at "dk") (by walk_at "dk") (by rfl) (by rfl) (by walk_at "pm") ?_)))
    walk_at "go"
    refine ⟨((a, la, h2), annS, tight one, ss, tight oth, n), rfl, rfl, ⟨q6, q2, by show Led h2.fl _ _ _ _; rw [q1]; exact hLed, by show h2.fm.length + ss.length ≤ 100000; omega⟩, ?_⟩
    rintro _ s' f1 f2 f3 ⟨rfl, h3, rfl, Tl⟩
    dsimp only at Tl
    refine ⟨_, by walk_at "ss", ?_⟩
    walk_at "go"
    refine neO (a := some (h2.now.2 + n)) (by rw [hL, q4, Int.zero_add]) (spF (dtm_t ?_))
    have hfl3 := Tl.fl.trans q1
    walk_at "go"
    refine ⟨((a, la, h3), (annS, tight oth), beaS, tight oth), rfl, rfl, ⟨Tl.ok, ⟨Tl.at_, by show RowOf h3.fl _; rw [hfl3]; exact htt, by show (tight oth).length ≤ 20; omega⟩, (Tl.oth beaS ne_ab).trans q3, by show RowOf h3.fl _; rw [hfl3]; exact htt, by show (tight oth).length ≤ 20; omega⟩, ?_⟩
    rintro d0 e
    obtain rfl : d0 = encO (L (wF fl) (back (tight oth) ++ tight oth)) := e.trans (by show encO (L (wF h3.fl) _) = _; rw [hfl3])
    walk_at "go"
    refine ne0 ?_ (spF (dbm_nil ?_))
    · have rtt := tight_row rt
      rw [L_zero W (row_app2 (back_row rtt) rtt)]
      exact tight_backself rtt
    obtain ⟨P, hPl, hpast⟩ := Tl.past
    refine dbm_for S (di_lst ?_)
    walk_at "go"
    refine ⟨_, rfl, fun j δ => ∃ (h4 : Hal) (x : Option SD), δ = [some (.d (.scr ns)), some (.d (.int (0 + (i : Int)))), some (.d .drw), some (.d (encF fl)), some (.hb (hst C' (a, la, h4))), some (.d (.str (tx one))), some (.d (.str (tx oth))), some (.d (encO (L (wF fl) (tight one)))), some (.d (encO (L (wF fl) (back one ++ oth)))), some (.d rd), some (.d (.lst (ss.map encS))), x, none, none, none, none, none, none] ∧ h4.fl = h2.fl ∧ h4.fm ++ [h4.now] = h2.fm ++ (h2.now :: P).take (ss.length + 1 - j), ⟨h3, _, rfl, Tl.fl, ?_⟩, ?_, ?_⟩
    · rw [hpast, List.take_of_length_le]
      rw [List.length_cons, hPl]
      omega
    · rintro j d δ' hj ⟨h4, x, rfl, e5, e6⟩
      have hjl := (List.getElem?_eq_some_iff.mp hj).1
      rw [List.length_map] at hjl
      have hPl' : (h2.now :: P).length = ss.length + 1 := by rw [List.length_cons, hPl]
      obtain ⟨y, hy⟩ : ∃ y, (h2.now :: P)[ss.length - j]? = some y := ⟨_, List.getElem?_eq_getElem (by omega)⟩
      obtain ⟨z, hz⟩ : ∃ z, (h2.now :: P)[ss.length - j - 1]? = some z := ⟨_, List.getElem?_eq_getElem (by omega)⟩
      have t1 : (h2.now :: P).take (ss.length + 1 - j) = (h2.now :: P).take (ss.length - j) ++ [y] := by
        rw [show ss.length + 1 - j = (ss.length - j) + 1 by omega]
        exact take_snoc hy
      have t2 : (h2.now :: P).take (ss.length - j) = (h2.now :: P).take (ss.length - j - 1) ++ [z] := by
        have := take_snoc hz
        rwa [show ss.length - j - 1 + 1 = ss.length - j by omega] at this
      rw [t1, ← List.append_assoc] at e6
      obtain ⟨e7, e8⟩ := List.append_inj' e6 rfl
      refine ⟨_, dg_name S (by walk_at "dk") ⟨_, by walk_at "ss", ?_⟩⟩
      refine dbm_meth0 S hk cBk (by walk_at "gt") (by walk_at "dk") rfl (by rfl) (by rfl) ?_ (by walk_at "pm")
      refine ⟨((a, la, h4), h2.fm ++ (h2.now :: P).take (ss.length - j - 1), z), rfl, rfl, by show h4.fm = _; rw [e7, t2, List.append_assoc], ?_⟩
      rintro _ s' f1 f2 f3 rfl
      refine ⟨_, by walk_at "ss", ?_⟩
      refine dbm_nil ⟨⟨h4.fl, z, h2.fm ++ (h2.now :: P).take (ss.length - j - 1)⟩, _, rfl, e5, ?_⟩
      show (h2.fm ++ (h2.now :: P).take (ss.length - j - 1)) ++ [z] = _
      rw [show ss.length + 1 - (j + 1) = ss.length - j by omega, t2, List.append_assoc]
    · rintro δ' ⟨h4, x, rfl, e5, e6⟩
      rw [List.length_map, show ss.length + 1 - ss.length = 1 by omega] at e6
      obtain ⟨e7, e8⟩ := List.append_inj' (e6 : _ = h2.fm ++ [h2.now]) rfl
      have e9 : h4 = h2 := by
        cases h4
        cases h2
        cases e5
        cases e7
        cases e8
        rfl
      rw [e9]
      exact dbm_nil (by walk_at "wk")
  rintro δ' hw
  refine dbm_weak hw ?_
  refine dbm_for S (di_range1 S mr (by walk_at "dk") ?_)
  walk_at "go"
  refine ⟨8, rfl, by decide, by decide, ?_⟩
  refine ⟨fun j δ => ∃ (h : Hal) (r : List Nat) (p : Int), δ = [some (.d (.scr ns)), some (.d (.int (0 + (i : Int)))), some (.d .drw), some (.d (encF fl)), some (.hb (hst C' (a, la, h))), some (.d (.str (tx one))), some (.d (.str (tx oth))), some (.d (encO (L (wF fl) (tight one)))), some (.d (encO (L (wF fl) (back one ++ oth)))), some (.d rd), some (.d (.lst rs)), none, none, none, none, none, none, none] ∧ Two fl r (tight oth) (2 + j) p h ∧ RowOf fl r ∧ r.length ≤ 12 + j ∧ Ole (L (wF fl) (tight one)) (oplus (L (wF fl) r) (some p)),
    ⟨h2, tight one, 0, rfl, T2, hto, by omega, by rw [oplus_zero]; exact Ole.refl _⟩, ?_, ?_⟩
  · rintro j d δ' hj ⟨h, r, p, rfl, T, hr, hl, hle⟩
    obtain ⟨hj8, rfl⟩ := rangeD_get hj
    have hj8 : j < 8 := hj8
    have htl3 := turnsF_len fl
    have hfl := hf.len
    have hpl : (priced fl).length ≤ 16 := by
      have : (priced fl).length ≤ (turnsF fl).length := List.length_filter_le _ _
      omega
    have hpm : ∀ c ∈ priced fl, c ∈ turnsF fl ∧ ∃ n, wF fl c = some n := fun c hc => by
      obtain ⟨h1, h2⟩ := List.mem_filter.mp hc
      exact ⟨h1, encO_some h2⟩
    obtain ⟨p1, p2, p3, p4, p5, p6⟩ := id T
    refine ⟨_, dg_name S (by walk_at "dk") ⟨_, by walk_at "ss", ?_⟩⟩
    walk_at "go"
    refine de_callTy S (x := "dict") md (by decide +kernel : bootBuiltins "dict" = some (.type "dict")) (by walk_at "dk") ?_
    walk_at "go"
    refine ⟨(a, la, h), rfl, rfl, p6, ?_⟩
    rintro _ ⟨qs, hq, rfl⟩
    walk_at "go"
    refine bw_dictP S ?_
    walk_at "go"
    refine .dk (q := Sum.inr annS) rfl (cords_at hq p6.nd p2) ?_
    refine ⟨_, by walk_at "ss", ?_⟩
    refine dbm_ds (ds_setLc1 S (di_range1 S mr (by walk_at "dk") ?_) (by walk_at "dk") (by walk_at "dk") (by walk_at "dk"))
    walk_at "go"
    refine bw_lenS (hS r (by omega)) ?_
    rw [len_tx]
    refine ⟨_, rfl, by omega, by omega, ?_⟩
    rw [Int.toNat_natCast]
    unfold rangeD
    refine lc_filter (p := fun i => (wF fl (r.getD i 0)).isSome) (f := fun (i : Nat) => Da.int (i : Int)) (by walk_at "wp") (by simp; omega) (fun X1 S1 i hi => ?_) ?_
    · obtain ⟨c, hc⟩ : ∃ c, r[i]? = some c := ⟨r[i]'(List.mem_range.mp hi), List.getElem?_eq_getElem _⟩
      refine dg_name S1 (by walk_at "dk") ⟨_, by walk_at "ss", fun X2 S2 => ?_⟩
      walk_at "go"
      refine ⟨fl, rfl, hf, ?_⟩
      rintro _ ⟨kc, rfl, hkc⟩
      walk_at "go"
      refine at_tx (X := X2) (j := i) (by omega) (by omega) hc ?_
      refine .dk (q := kC c) rfl (hkc.at_ c (hr c (List.mem_of_getElem? hc))) ?_
      walk_at "go"
      refine .notN ⟨by rw [getD_of hc]; exact priced_test, fun _ X3 S3 => ?_⟩
      walk_at "go"
      exact congrArg Da.int (Int.zero_add _)
    have hsm : ∀ i ∈ (List.range r.length).filter fun i => (wF fl (r.getD i 0)).isSome, ∃ c n, r[i]? = some c ∧ wF fl c = some n := fun i hi => by
      obtain ⟨h1, h2⟩ := List.mem_filter.mp hi
      have h1 := List.mem_range.mp h1
      have e : r[i]? = some r[i] := List.getElem?_eq_getElem h1
      rw [getD_of e] at h2
      obtain ⟨n, hn⟩ := encO_some h2
      exact ⟨_, n, e, hn⟩
    have hsl : ((List.range r.length).filter fun i => (wF fl (r.getD i 0)).isSome).length ≤ 300 := by
      have := List.length_filter_le (fun i => (wF fl (r.getD i 0)).isSome) (List.range r.length)
      rw [List.length_range] at this
      omega
    generalize (List.range r.length).filter (fun i => (wF fl (r.getD i 0)).isSome) = sp at hsm hsl
    refine ⟨_, by walk_at "ss", ?_⟩
    have shp1 : Shp 1 (.lst (sp.map fun (i : Nat) => Da.int (i : Int))) := .lst fun d hd => by
      obtain ⟨i, _, rfl⟩ := List.mem_map.mp hd
      exact .int _
    have shp2 : Shp 1 (.lst ((priced fl).map sg)) := shp_sgs fun c hc => turnsF_T hf (hpm c hc).1
    refine dbm_ifJ (fun δ' => ∃ (h' : Hal) (r' : List Nat) (p' : Int), WkS δ' [some (.d (.scr ns)), some (.d (.int (0 + (i : Int)))), some (.d .drw), some (.d (encF fl)), some (.hb (hst C' (a, la, h'))), some (.d (.str (tx one))), some (.d (.str (tx oth))), some (.d (encO (L (wF fl) (tight one)))), some (.d (encO (L (wF fl) (back one ++ oth)))), some (.d rd), some (.d (.lst rs)), none, none, none, none, none, none, none] ∧ Two fl r' (tight oth) (2 + (j + 1)) p' h' ∧ RowOf fl r' ∧ r'.length ≤ 12 + (j + 1) ∧ Ole (L (wF fl) (tight one)) (oplus (L (wF fl) r') (some p')))
      (DT.imp (Φ := fun z => z = true → sp ≠ []) ?_ fun z hz => ⟨fun e => ?_, fun e => ?_⟩) ?_
    · walk_at "go"
      refine cmp_neNil shp1 ⟨fun h => ?_, fun h z => by cases z⟩
      have hne : sp ≠ [] := fun z => by rw [z] at h; cases h
      walk_at "go"
      refine ⟨3, rfl, ⟨by decide, by decide⟩, ?_⟩
      rintro _ ⟨b, rfl, _, _⟩
      walk_at "go"
      exact .gt fun _ => hne
    · have hne := hz e
      have h1 : 1 ≤ sp.length := by
        cases sp with
        | nil => exact absurd rfl hne
        | cons x y => simp
      walk_at "go"
      refine ⟨_, rfl, .inl ⟨_, rfl, by rw [List.length_map]; exact h1, by rw [List.length_map]; omega⟩, ?_⟩
      rintro d ⟨hd, _⟩
      obtain ⟨q, hq, rfl⟩ := List.mem_map.mp (hd _ rfl)
      obtain ⟨c, v, hc, hv⟩ := hsm q hq
      have hql := (List.getElem?_eq_some_iff.mp hc).1
      walk_at "go"
      refine ⟨((a, la, h), annS, r, q, v), rfl, rfl, ⟨p6, ⟨p2, by show RowOf h.fl _; rw [p1]; exact hr, by show r.length ≤ 40; omega⟩, c, hc, by show wF h.fl _ = _; rw [p1]; exact hv⟩, ?_⟩
      rintro _ s' e1 e2 e3 rfl
      refine ⟨_, by walk_at "ss", ?_⟩
      refine dbm_nil ⟨h.kept annS (tight (outR r q)) v, tight (outR r q), p + v, ?_, (T.kept (z := tight (outR r q)) (v := v) (by omega)), ?_, ?_, ?_⟩
      · show WkS [_, _, _, _, some (.hb (hst C' (a, la, h.kept annS (tight (outR r q)) v))), _, _, _, _, _, _, _, _, _, _, _, _, _] _
        walk_at "wk"
      · exact tight_of fun z hz => (List.mem_append.mp hz).elim (fun y => hr z (List.mem_of_mem_take y)) fun y => hr z (List.mem_of_mem_drop y)
      · have := tight_len (outR r q)
        have e4 : (outR r q).length ≤ r.length := by unfold outR; rw [List.length_append, List.length_take, List.length_drop]; omega
        omega
      · exact ole_step hle (ole_out W (hr.row hf) hql (by rw [getD_of hc]; exact hv))
    · refine dbm_if ?_
      walk_at "go"
      refine ⟨fl, rfl, hf, ?_⟩
      rintro _ rfl
      walk_at "go"
      refine cmp_neNil shp2 ⟨fun h9 => ?_, fun h9 => ?_⟩
      · have h1 : 1 ≤ (priced fl).length := by
          cases hp : priced fl with
          | nil => rw [hp] at h9; cases h9
          | cons x y => simp
        walk_at "go"
        refine bw_lenS (hS r (by omega)) ?_
        rw [len_tx]
        walk_at "go"
        refine ⟨_, rfl, ⟨by omega, by omega⟩, ?_⟩
        rintro _ ⟨at_, rfl, ha0, ha1⟩
        obtain ⟨q, rfl⟩ := Int.eq_ofNat_of_zero_le ha0
        walk_at "go"
        refine ⟨fl, rfl, hf, ?_⟩
        rintro _ rfl
        walk_at "go"
        refine ⟨_, rfl, .inl ⟨_, rfl, by rw [List.length_map]; exact h1, by rw [List.length_map]; omega⟩, ?_⟩
        rintro d ⟨hd, _⟩
        obtain ⟨c, hc, rfl⟩ := List.mem_map.mp (hd _ rfl)
        obtain ⟨hct, v, hv⟩ := hpm c hc
        have hcT := turnsF_T hf hct
        have e4 : (putR r q c).length = r.length + 1 := by unfold putR; rw [List.length_append, List.length_take, List.length_cons, List.length_drop]; omega
        have e5 := tight_len (putR r q c)
        walk_at "go"
        refine ⟨((a, la, h), annS, r, q, c, v), rfl, rfl, ⟨p6, ⟨p2, by show RowOf h.fl _; rw [p1]; exact hr, by show r.length ≤ 40; omega⟩, by show q ≤ r.length; omega, by show c ∈ turnsF h.fl; rw [p1]; exact hct, by show wF h.fl _ = _; rw [p1]; exact hv, by show (tight (putR r q c)).length ≤ 40; omega⟩, ?_⟩
        rintro _ s' e1 e2 e3 rfl
        refine ⟨_, by walk_at "ss", ?_⟩
        refine dbm_nil (dbm_nil ⟨h.kept annS (tight (putR r q c)) v, tight (putR r q c), p + v, ?_, (T.kept (z := tight (putR r q c)) (v := v) (by omega)), ?_, ?_, ?_⟩)
        · show WkS [_, _, _, _, some (.hb (hst C' (a, la, h.kept annS (tight (putR r q c)) v))), _, _, _, _, _, _, _, _, _, _, _, _, _] _
          walk_at "wk"
        · exact tight_of fun z hz => by
            rcases List.mem_append.mp hz with y | y
            · exact hr z (List.mem_of_mem_take y)
            · rcases List.mem_cons.mp y with rfl | y
              · exact hct
              · exact hr z (List.mem_of_mem_drop y)
        · omega
        · exact ole_step hle (ole_put W (hr.row hf) hcT hv)
      · refine dbm_nil (dbm_nil ⟨h, r, p, by walk_at "wk", ⟨p1, p2, p3, p4, by omega, p6⟩, hr, by omega, hle⟩)
    rintro δ' ⟨h', r', p', hw, T', hr', hl', hle'⟩
    refine dbm_weak hw ?_
    obtain ⟨u1, u2, u3, u4, u5, u6⟩ := id T'
    refine dbm_if (dt_val ?_)
    walk_at "go"
    refine ⟨((a, la, h'), annS, r'), rfl, rfl, ⟨u6, u2, by show RowOf h'.fl _; rw [u1]; exact hr', by show r'.length ≤ 40; omega⟩, ?_⟩
    rintro d0 e
    obtain rfl : d0 = encO (L (wF fl) r') := e.trans (by show encO (L (wF h'.fl) _) = _; rw [u1])
    walk_at "go"
    refine ⟨(a, la, h'), rfl, rfl, trivial, ?_⟩
    rintro d0 e
    obtain rfl : d0 = encO (some p') := e.trans (by show Da.int h'.now.2 = _; rw [u4]; rfl)
    walk_at "go"
    refine ⟨(L (wF fl) r', some p'), rfl, trivial, ?_⟩
    rintro _ rfl
    walk_at "go"
    refine ⟨(_, _), rfl, trivial, ?_⟩
    rintro _ rfl
    dsimp only
    refine ⟨false, congrArg (fun c => Da.bl c) (below_no hle'), ?_⟩
    exact spF (dbm_nil (dbm_nil ⟨h', r', p', rfl, T', hr', hl', hle'⟩))
  · rintro δ' ⟨h, r, p, rfl, T, hr, hl, _⟩
    have hl : r.length ≤ 12 + 8 := hl
    have T : Two fl r (tight oth) (2 + 8) p h := T
    obtain ⟨p1, p2, p3, p4, p5, p6⟩ := id T
    have p5 : h.fm.length ≤ 2 + 8 := p5
    walk_at "go"
    refine ⟨((a, la, h), annS, r), rfl, rfl, ⟨p6, p2, by show RowOf h.fl _; rw [p1]; exact hr, by show r.length ≤ 40; omega⟩, ?_⟩
    rintro d0 e
    obtain rfl : d0 = encO (L (wF fl) r) := e.trans (by show encO (L (wF h.fl) _) = _; rw [p1])
    walk_at "go"
    refine ⟨(fl, 8), rfl, ⟨hf, by show (0 : Int) ≤ 8; decide, by show (8 : Int) ≤ 1000; decide⟩, ?_⟩
    rintro _ ⟨more, rfl, hm, hml⟩
    dsimp only at hm hml
    refine ⟨_, _, by walk_at "ss", by walk_at "ss", ?_⟩
    have hrm : RowOf fl (r ++ more) := hr.app hm
    have hlm : (r ++ more).length ≤ 28 := by rw [List.length_append]; omega
    have hlm2 := tight_len (r ++ more)
    walk_at "go"
    refine ⟨((a, la, h), annS, r, more), rfl, rfl, ⟨p6, ⟨p2, hr.row hf, by show r.length ≤ 40; omega⟩, by show RowOf h.fl _; rw [p1]; exact hm, by show more.length ≤ 40; omega, by show (tight (r ++ more)).length ≤ 40; omega⟩, ?_⟩
    rintro _ s' e1 e2 e3 rfl
    refine ⟨_, by walk_at "ss", ?_⟩
    have T' := T.kept (z := tight (r ++ more)) (v := 0) (by omega)
    show DBm X (hst C' (a, la, hal0 fl)) _ [some (.d (.scr ns)), some (.d (.int (0 + (i : Int)))), some (.d .drw), some (.d (encF fl)), some (.hb (hst C' (a, la, h.kept annS (tight (r ++ more)) 0))), some (.d (.str (tx one))), some (.d (.str (tx oth))), some (.d (encO (L (wF fl) (tight one)))), some (.d (encO (L (wF fl) (back one ++ oth)))), some (.d rd), some (.d (.lst rs)), none, none, none, some (.d (encO (L (wF fl) r))), some (.d (.str (tx more))), none, none] _ _
    generalize h.kept annS (tight (r ++ more)) 0 = h' at T' ⊢
    obtain ⟨u1, u2, u3, u4, u5, u6⟩ := id T'
    refine dbm_if (dt_w (dw_or (dt_val ?_)))
    walk_at "go"
    refine ⟨(fl, more), rfl, ⟨hf, hm, by show more.length ≤ 300; omega⟩, ?_⟩
    rintro _ rfl
    walk_at "go"
    refine ⟨(_, _), rfl, trivial, ?_⟩
    rintro _ rfl
    walk_at "go"
    refine ⟨((a, la, h'), annS, tight (r ++ more)), rfl, rfl, ⟨u6, u2, by show RowOf h'.fl _; rw [u1]; exact tight_of hrm, by show (tight (r ++ more)).length ≤ 40; omega⟩, ?_⟩
    rintro d0 e
    obtain rfl : d0 = encO (L (wF fl) (tight (r ++ more))) := e.trans (by show encO (L (wF h'.fl) _) = _; rw [u1])
    walk_at "go"
    refine ⟨(_, _), rfl, trivial, ?_⟩
    rintro _ rfl
    dsimp only
    have hle2 : Ole (L (wF fl) (tight (r ++ more))) (oplus (L (wF fl) r) (L (wF fl) more)) := by
      rw [L_tight W (hrm.row hf)]
      exact L_app W r more
    refine ⟨false, congrArg (fun c => Da.bl c) (below_no hle2), spF (dw_or1 ?_)⟩
    walk_at "go"
    refine ⟨((a, la, h'), beaS, tight oth), rfl, rfl, ⟨u6, u3, by show RowOf h'.fl _; rw [u1]; exact htt, by show (tight oth).length ≤ 40; omega⟩, ?_⟩
    rintro d0 e
    obtain rfl : d0 = encO (L (wF fl) (tight oth)) := e.trans (by show encO (L (wF h'.fl) _) = _; rw [u1])
    walk_at "go"
    refine ⟨(fl, oth), rfl, ⟨hf, ht, by show oth.length ≤ 300; omega⟩, ?_⟩
    rintro _ rfl
    refine neO (L_tight W rt) (spF (dbm_nil ?_))
    refine dbm_weak (δ0 := [some (.d (.scr ns)), none, none, none, some (.hb (hst C' (a, la, h'))), none, none, none, none, none, none, none, none, none, none, none, none, none]) (by walk_at "wk") (dbm_nil ⟨by walk_at "pm", ?_⟩)
    exact ⟨_, by walk_at "ss", rfl⟩
end

theorem ends {l : PySem.W.OpenLaw} {w : World} {K : PySem.W.Frag} {h : Heap} {mg : Str → Option Value} {fa : Addr} (X : K.In h) (G : h.Ns mainGlobals mg) (hfa : mg "law" = some (.ref fa))
    {f0 : Addr} {od0 an0 : Option Addr} {sl0 : Array (Option Value)} {oc0 kV0 dc0 pm0 cd0 ct0 : Value}
    {f1 : Addr} {od1 an1 : Option Addr} {sl1 : Array (Option Value)} {oc1 kV1 dc1 pm1 cd1 ct1 : Value}
    {f2 : Addr} {od2 an2 : Option Addr} {sl2 : Array (Option Value)} {oc2 kV2 dc2 pm2 cd2 ct2 : Value}
    {f3 : Addr} {od3 an3 : Option Addr} {sl3 : Array (Option Value)} {oc3 kV3 dc3 pm3 cd3 ct3 : Value}
    {f4 : Addr} {od4 an4 : Option Addr} {sl4 : Array (Option Value)} {oc4 kV4 dc4 pm4 cd4 ct4 : Value}
    {f5 : Addr} {od5 an5 : Option Addr} {sl5 : Array (Option Value)} {oc5 kV5 dc5 pm5 cd5 ct5 : Value}
    {f6 : Addr} {od6 an6 : Option Addr} {sl6 : Array (Option Value)} {oc6 kV6 dc6 pm6 cd6 ct6 : Value}
    {f7 : Addr} {od7 an7 : Option Addr} {sl7 : Array (Option Value)} {oc7 kV7 dc7 pm7 cd7 ct7 : Value}
    {f8 : Addr} {od8 an8 : Option Addr} {sl8 : Array (Option Value)} {oc8 kV8 dc8 pm8 cd8 ct8 : Value}
    {f9 : Addr} {od9 an9 : Option Addr} {sl9 : Array (Option Value)} {oc9 kV9 dc9 pm9 cd9 ct9 : Value}
    {f10 : Addr} {od10 an10 : Option Addr} {sl10 : Array (Option Value)} {oc10 kV10 dc10 pm10 cd10 ct10 : Value}
    {f11 : Addr} {od11 an11 : Option Addr} {sl11 : Array (Option Value)} {oc11 kV11 dc11 pm11 cd11 ct11 : Value}
    {f12 : Addr} {od12 an12 : Option Addr} {sl12 : Array (Option Value)} {oc12 kV12 dc12 pm12 cd12 ct12 : Value}
    {f13 : Addr} {od13 an13 : Option Addr} {sl13 : Array (Option Value)} {oc13 kV13 dc13 pm13 cd13 ct13 : Value}
    {f14 : Addr} {od14 an14 : Option Addr} {sl14 : Array (Option Value)} {oc14 kV14 dc14 pm14 cd14 ct14 : Value}
    {f15 : Addr} {od15 an15 : Option Addr} {sl15 : Array (Option Value)} {oc15 kV15 dc15 pm15 cd15 ct15 : Value}
    {f16 : Addr} {od16 an16 : Option Addr} {sl16 : Array (Option Value)} {oc16 kV16 dc16 pm16 cd16 ct16 : Value}
    {f17 : Addr} {od17 an17 : Option Addr} {sl17 : Array (Option Value)} {oc17 kV17 dc17 pm17 cd17 ct17 : Value}
    {f18 : Addr} {od18 an18 : Option Addr} {sl18 : Array (Option Value)} {oc18 kV18 dc18 pm18 cd18 ct18 : Value}
    {f19 : Addr} {od19 an19 : Option Addr} {sl19 : Array (Option Value)} {oc19 kV19 dc19 pm19 cd19 ct19 : Value}
    {f20 : Addr} {od20 an20 : Option Addr} {sl20 : Array (Option Value)} {oc20 kV20 dc20 pm20 cd20 ct20 : Value}
    {f21 : Addr} {od21 an21 : Option Addr} {sl21 : Array (Option Value)} {oc21 kV21 dc21 pm21 cd21 ct21 : Value}
    {f22 : Addr} {od22 an22 : Option Addr} {sl22 : Array (Option Value)} {oc22 kV22 dc22 pm22 cd22 ct22 : Value}
    {f23 : Addr} {od23 an23 : Option Addr} {sl23 : Array (Option Value)} {oc23 kV23 dc23 pm23 cd23 ct23 : Value}
    {f24 : Addr} {od24 an24 : Option Addr} {sl24 : Array (Option Value)} {oc24 kV24 dc24 pm24 cd24 ct24 : Value}
    {f25 : Addr} {od25 an25 : Option Addr} {sl25 : Array (Option Value)} {oc25 kV25 dc25 pm25 cd25 ct25 : Value}
    {f26 : Addr} {od26 an26 : Option Addr} {sl26 : Array (Option Value)} {oc26 kV26 dc26 pm26 cd26 ct26 : Value}
    {f27 : Addr} {od27 an27 : Option Addr} {sl27 : Array (Option Value)} {oc27 kV27 dc27 pm27 cd27 ct27 : Value}
    {f28 : Addr} {od28 an28 : Option Addr} {sl28 : Array (Option Value)} {oc28 kV28 dc28 pm28 cd28 ct28 : Value}
    {f29 : Addr} {od29 an29 : Option Addr} {sl29 : Array (Option Value)} {oc29 kV29 dc29 pm29 cd29 ct29 : Value}
    {f30 : Addr} {od30 an30 : Option Addr} {sl30 : Array (Option Value)} {oc30 kV30 dc30 pm30 cd30 ct30 : Value}
    {f31 : Addr} {od31 an31 : Option Addr} {sl31 : Array (Option Value)} {oc31 kV31 dc31 pm31 cd31 ct31 : Value}
    {f32 : Addr} {od32 an32 : Option Addr} {sl32 : Array (Option Value)} {oc32 kV32 dc32 pm32 cd32 ct32 : Value}
    {f33 : Addr} {od33 an33 : Option Addr} {sl33 : Array (Option Value)} {oc33 kV33 dc33 pm33 cd33 ct33 : Value}
    {f34 : Addr} {od34 an34 : Option Addr} {sl34 : Array (Option Value)} {oc34 kV34 dc34 pm34 cd34 ct34 : Value}
    {f35 : Addr} {od35 an35 : Option Addr} {sl35 : Array (Option Value)} {oc35 kV35 dc35 pm35 cd35 ct35 : Value}
    {f36 : Addr} {od36 an36 : Option Addr} {sl36 : Array (Option Value)} {oc36 kV36 dc36 pm36 cd36 ct36 : Value}
    {f37 : Addr} {od37 an37 : Option Addr} {sl37 : Array (Option Value)} {oc37 kV37 dc37 pm37 cd37 ct37 : Value}
    {f38 : Addr} {od38 an38 : Option Addr} {sl38 : Array (Option Value)} {oc38 kV38 dc38 pm38 cd38 ct38 : Value}
    {f39 : Addr} {od39 an39 : Option Addr} {sl39 : Array (Option Value)} {oc39 kV39 dc39 pm39 cd39 ct39 : Value}
    {f40 : Addr} {od40 an40 : Option Addr} {sl40 : Array (Option Value)} {oc40 kV40 dc40 pm40 cd40 ct40 : Value}
    {f41 : Addr} {od41 an41 : Option Addr} {sl41 : Array (Option Value)} {oc41 kV41 dc41 pm41 cd41 ct41 : Value}
    {f42 : Addr} {od42 an42 : Option Addr} {sl42 : Array (Option Value)} {oc42 kV42 dc42 pm42 cd42 ct42 : Value}
    {f43 : Addr} {od43 an43 : Option Addr} {sl43 : Array (Option Value)} {oc43 kV43 dc43 pm43 cd43 ct43 : Value}
    {f44 : Addr} {od44 an44 : Option Addr} {sl44 : Array (Option Value)} {oc44 kV44 dc44 pm44 cd44 ct44 : Value}
    {f45 : Addr} {od45 an45 : Option Addr} {sl45 : Array (Option Value)} {oc45 kV45 dc45 pm45 cd45 ct45 : Value}
    {f46 : Addr} {od46 an46 : Option Addr} {sl46 : Array (Option Value)} {oc46 kV46 dc46 pm46 cd46 ct46 : Value}
    {f47 : Addr} {od47 an47 : Option Addr} {sl47 : Array (Option Value)} {oc47 kV47 dc47 pm47 cd47 ct47 : Value}
    {f48 : Addr} {od48 an48 : Option Addr} {sl48 : Array (Option Value)} {oc48 kV48 dc48 pm48 cd48 ct48 : Value}
    {f49 : Addr} {od49 an49 : Option Addr} {sl49 : Array (Option Value)} {oc49 kV49 dc49 pm49 cd49 ct49 : Value}
    {t0 : Tok} (g0 : PySem.W.nsIn K mainGlobals "LETTERS" = some (some (.str lettersS t0)))
    {t1 : Tok} (g1 : PySem.W.nsIn K mainGlobals "GREAT" = some (some (.str greatS t1)))
    {ti0 : Tok} (gi0 : PySem.W.nsIn K mainGlobals "MOST_POSTS" = some (some (.int 8 ti0)))
    {ti1 : Tok} (gi1 : PySem.W.nsIn K mainGlobals "MOST_COST" = some (some (.int 100 ti1)))
    {ti2 : Tok} (gi2 : PySem.W.nsIn K mainGlobals "MOST_TURNS" = some (some (.int 40 ti2)))
    {ti3 : Tok} (gi3 : PySem.W.nsIn K mainGlobals "MOST_CORDS" = some (some (.int 6 ti3)))
    {ti4 : Tok} (gi4 : PySem.W.nsIn K mainGlobals "MOST_APART" = some (some (.int 20 ti4)))
    {cl0 : Addr} (aC : PySem.W.nsIn K mainGlobals "Hall" = some (some (.ref cl0))) (pg : PySem.W.plainGet K cl0 Str.empty = true) (hd : PySem.W.hasDictIn K cl0 = true) (po : PySem.W.plainOver K cl0 = true) (sa : PySem.W.findIn K (.ref cl0) "__setattr__" = some (some (.builtin "object.__setattr__"))) (mk : PySem.W.makesIn K cl0 = true) (kc : PySem.W.keepIn K (.ref cl0) = true)
    (nf0 : PySem.W.findIn K (.ref cl0) "ground" = some none) (nf1 : PySem.W.findIn K (.ref cl0) "now" = some none) (nf2 : PySem.W.findIn K (.ref cl0) "former" = some none)
    (a0 : PySem.W.nsIn K mainGlobals "_law_draws" = some (some (.ref f0))) (l0 : K.lookup f0 = some ⟨oc0, od0, .func (PySem.W.fnOf "_law_draws" "_law_draws" (defArgs s_ldraws) (defBody s_ldraws) (defScope s_ldraws) .none kV0 dc0 pm0 an0 cd0 ct0), sl0⟩) (c0 : PySem.W.codeIn K cd0 "_law_draws" = true) (k0 : PySem.W.keepIn K (.ref f0) = true)
    (a1 : PySem.W.nsIn K mainGlobals "_law_draw" = some (some (.ref f1))) (l1 : K.lookup f1 = some ⟨oc1, od1, .func (PySem.W.fnOf "_law_draw" "_law_draw" (defArgs s_ldraw) (defBody s_ldraw) (defScope s_ldraw) .none kV1 dc1 pm1 an1 cd1 ct1), sl1⟩) (c1 : PySem.W.codeIn K cd1 "_law_draw" = true) (k1 : PySem.W.keepIn K (.ref f1) = true)
    (a2 : PySem.W.nsIn K mainGlobals "_law_of" = some (some (.ref f2))) (l2 : K.lookup f2 = some ⟨oc2, od2, .func (PySem.W.fnOf "_law_of" "_law_of" (defArgs s_lof) (defBody s_lof) (defScope s_lof) .none kV2 dc2 pm2 an2 cd2 ct2), sl2⟩) (c2 : PySem.W.codeIn K cd2 "_law_of" = true) (k2 : PySem.W.keepIn K (.ref f2) = true)
    (a3 : PySem.W.nsIn K mainGlobals "_law_floor" = some (some (.ref f3))) (l3 : K.lookup f3 = some ⟨oc3, od3, .func (PySem.W.fnOf "_law_floor" "_law_floor" (defArgs s_lfloor) (defBody s_lfloor) (defScope s_lfloor) .none kV3 dc3 pm3 an3 cd3 ct3), sl3⟩) (c3 : PySem.W.codeIn K cd3 "_law_floor" = true) (k3 : PySem.W.keepIn K (.ref f3) = true)
    (a4 : PySem.W.nsIn K mainGlobals "_law_turns" = some (some (.ref f4))) (l4 : K.lookup f4 = some ⟨oc4, od4, .func (PySem.W.fnOf "_law_turns" "_law_turns" (defArgs s_lturns) (defBody s_lturns) (defScope s_lturns) .none kV4 dc4 pm4 an4 cd4 ct4), sl4⟩) (c4 : PySem.W.codeIn K cd4 "_law_turns" = true) (k4 : PySem.W.keepIn K (.ref f4) = true)
    (a5 : PySem.W.nsIn K mainGlobals "_law_undoes" = some (some (.ref f5))) (l5 : K.lookup f5 = some ⟨oc5, od5, .func (PySem.W.fnOf "_law_undoes" "_law_undoes" (defArgs s_lundoes) (defBody s_lundoes) (defScope s_lundoes) .none kV5 dc5 pm5 an5 cd5 ct5), sl5⟩) (c5 : PySem.W.codeIn K cd5 "_law_undoes" = true) (k5 : PySem.W.keepIn K (.ref f5) = true)
    (a6 : PySem.W.nsIn K mainGlobals "_law_row" = some (some (.ref f6))) (l6 : K.lookup f6 = some ⟨oc6, od6, .func (PySem.W.fnOf "_law_row" "_law_row" (defArgs s_lrow) (defBody s_lrow) (defScope s_lrow) .none kV6 dc6 pm6 an6 cd6 ct6), sl6⟩) (c6 : PySem.W.codeIn K cd6 "_law_row" = true) (k6 : PySem.W.keepIn K (.ref f6) = true)
    (a7 : PySem.W.nsIn K mainGlobals "is_between" = some (some (.ref f7))) (l7 : K.lookup f7 = some ⟨oc7, od7, .func (PySem.W.fnOf "is_between" "is_between" (defArgs s_is_between) (defBody s_is_between) (defScope s_is_between) .none kV7 dc7 pm7 an7 cd7 ct7), sl7⟩) (c7 : PySem.W.codeIn K cd7 "is_between" = true) (k7 : PySem.W.keepIn K (.ref f7) = true)
    (a8 : PySem.W.nsIn K mainGlobals "is_post" = some (some (.ref f8))) (l8 : K.lookup f8 = some ⟨oc8, od8, .func (PySem.W.fnOf "is_post" "is_post" (defArgs s_is_post) (defBody s_is_post) (defScope s_is_post) .none kV8 dc8 pm8 an8 cd8 ct8), sl8⟩) (c8 : PySem.W.codeIn K cd8 "is_post" = true) (k8 : PySem.W.keepIn K (.ref f8) = true)
    (a9 : PySem.W.nsIn K mainGlobals "is_floor" = some (some (.ref f9))) (l9 : K.lookup f9 = some ⟨oc9, od9, .func (PySem.W.fnOf "is_floor" "is_floor" (defArgs s_is_floor) (defBody s_is_floor) (defScope s_is_floor) .none kV9 dc9 pm9 an9 cd9 ct9), sl9⟩) (c9 : PySem.W.codeIn K cd9 "is_floor" = true) (k9 : PySem.W.keepIn K (.ref f9) = true)
    (a10 : PySem.W.findIn K (.ref cl0) "__init__" = some (some (.ref f10))) (i10 : PySem.W.isFn K (.ref f10) = true) (l10 : K.lookup f10 = some ⟨oc10, od10, .func (PySem.W.fnOf "__init__" "Hall.__init__" (defArgs s_Hall___init__) (defBody s_Hall___init__) (defScope s_Hall___init__) .none kV10 dc10 pm10 an10 cd10 ct10), sl10⟩) (c10 : PySem.W.codeIn K cd10 "Hall.__init__" = true) (k10 : PySem.W.keepIn K (.ref f10) = true)
    (a11 : PySem.W.nsIn K mainGlobals "is_name" = some (some (.ref f11))) (l11 : K.lookup f11 = some ⟨oc11, od11, .func (PySem.W.fnOf "is_name" "is_name" (defArgs s_is_name) (defBody s_is_name) (defScope s_is_name) .none kV11 dc11 pm11 an11 cd11 ct11), sl11⟩) (c11 : PySem.W.codeIn K cd11 "is_name" = true) (k11 : PySem.W.keepIn K (.ref f11) = true)
    (a12 : PySem.W.nsIn K mainGlobals "undoes" = some (some (.ref f12))) (l12 : K.lookup f12 = some ⟨oc12, od12, .func (PySem.W.fnOf "undoes" "undoes" (defArgs s_undoes) (defBody s_undoes) (defScope s_undoes) .none kV12 dc12 pm12 an12 cd12 ct12), sl12⟩) (c12 : PySem.W.codeIn K cd12 "undoes" = true) (k12 : PySem.W.keepIn K (.ref f12) = true)
    (a13 : PySem.W.nsIn K mainGlobals "tight" = some (some (.ref f13))) (l13 : K.lookup f13 = some ⟨oc13, od13, .func (PySem.W.fnOf "tight" "tight" (defArgs s_tight) (defBody s_tight) (defScope s_tight) .none kV13 dc13 pm13 an13 cd13 ct13), sl13⟩) (c13 : PySem.W.codeIn K cd13 "tight" = true) (k13 : PySem.W.keepIn K (.ref f13) = true)
    (a14 : PySem.W.nsIn K mainGlobals "costs_of" = some (some (.ref f14))) (l14 : K.lookup f14 = some ⟨oc14, od14, .func (PySem.W.fnOf "costs_of" "costs_of" (defArgs s_costs_of) (defBody s_costs_of) (defScope s_costs_of) .none kV14 dc14 pm14 an14 cd14 ct14), sl14⟩) (c14 : PySem.W.codeIn K cd14 "costs_of" = true) (k14 : PySem.W.keepIn K (.ref f14) = true)
    (a15 : PySem.W.nsIn K mainGlobals "are_turns" = some (some (.ref f15))) (l15 : K.lookup f15 = some ⟨oc15, od15, .func (PySem.W.fnOf "are_turns" "are_turns" (defArgs s_are_turns) (defBody s_are_turns) (defScope s_are_turns) .none kV15 dc15 pm15 an15 cd15 ct15), sl15⟩) (c15 : PySem.W.codeIn K cd15 "are_turns" = true) (k15 : PySem.W.keepIn K (.ref f15) = true)
    (a16 : PySem.W.nsIn K mainGlobals "is_row" = some (some (.ref f16))) (l16 : K.lookup f16 = some ⟨oc16, od16, .func (PySem.W.fnOf "is_row" "is_row" (defArgs s_is_row) (defBody s_is_row) (defScope s_is_row) .none kV16 dc16 pm16 an16 cd16 ct16), sl16⟩) (c16 : PySem.W.codeIn K cd16 "is_row" = true) (k16 : PySem.W.keepIn K (.ref f16) = true)
    (a17 : PySem.W.findIn K (.ref cl0) "need_row" = some (some (.ref f17))) (i17 : PySem.W.isFn K (.ref f17) = true) (l17 : K.lookup f17 = some ⟨oc17, od17, .func (PySem.W.fnOf "need_row" "Hall.need_row" (defArgs s_Hall_need_row) (defBody s_Hall_need_row) (defScope s_Hall_need_row) .none kV17 dc17 pm17 an17 cd17 ct17), sl17⟩) (c17 : PySem.W.codeIn K cd17 "Hall.need_row" = true) (k17 : PySem.W.keepIn K (.ref f17) = true)
    (a18 : PySem.W.findIn K (.ref cl0) "__len__" = some (some (.ref f18))) (i18 : PySem.W.isFn K (.ref f18) = true) (l18 : K.lookup f18 = some ⟨oc18, od18, .func (PySem.W.fnOf "__len__" "Hall.__len__" (defArgs s_Hall___len__) (defBody s_Hall___len__) (defScope s_Hall___len__) .none kV18 dc18 pm18 an18 cd18 ct18), sl18⟩) (c18 : PySem.W.codeIn K cd18 "Hall.__len__" = true) (k18 : PySem.W.keepIn K (.ref f18) = true)
    (a19 : PySem.W.findIn K (.ref cl0) "keep" = some (some (.ref f19))) (i19 : PySem.W.isFn K (.ref f19) = true) (l19 : K.lookup f19 = some ⟨oc19, od19, .func (PySem.W.fnOf "keep" "Hall.keep" (defArgs s_Hall_keep) (defBody s_Hall_keep) (defScope s_Hall_keep) .none kV19 dc19 pm19 an19 cd19 ct19), sl19⟩) (c19 : PySem.W.codeIn K cd19 "Hall.keep" = true) (k19 : PySem.W.keepIn K (.ref f19) = true)
    (a20 : PySem.W.findIn K (.ref cl0) "lay" = some (some (.ref f20))) (i20 : PySem.W.isFn K (.ref f20) = true) (l20 : K.lookup f20 = some ⟨oc20, od20, .func (PySem.W.fnOf "lay" "Hall.lay" (defArgs s_Hall_lay) (defBody s_Hall_lay) (defScope s_Hall_lay) .none kV20 dc20 pm20 an20 cd20 ct20), sl20⟩) (c20 : PySem.W.codeIn K cd20 "Hall.lay" = true) (k20 : PySem.W.keepIn K (.ref f20) = true)
    (a21 : PySem.W.nsIn K mainGlobals "plus" = some (some (.ref f21))) (l21 : K.lookup f21 = some ⟨oc21, od21, .func (PySem.W.fnOf "plus" "plus" (defArgs s_plus) (defBody s_plus) (defScope s_plus) .none kV21 dc21 pm21 an21 cd21 ct21), sl21⟩) (c21 : PySem.W.codeIn K cd21 "plus" = true) (k21 : PySem.W.keepIn K (.ref f21) = true)
    (a22 : PySem.W.nsIn K mainGlobals "ways" = some (some (.ref f22))) (l22 : K.lookup f22 = some ⟨oc22, od22, .func (PySem.W.fnOf "ways" "ways" (defArgs s_ways) (defBody s_ways) (defScope s_ways) .none kV22 dc22 pm22 an22 cd22 ct22), sl22⟩) (c22 : PySem.W.codeIn K cd22 "ways" = true) (k22 : PySem.W.keepIn K (.ref f22) = true)
    (a23 : PySem.W.nsIn K mainGlobals "best_table" = some (some (.ref f23))) (l23 : K.lookup f23 = some ⟨oc23, od23, .func (PySem.W.fnOf "best_table" "best_table" (defArgs s_best_table) (defBody s_best_table) (defScope s_best_table) .none kV23 dc23 pm23 an23 cd23 ct23), sl23⟩) (c23 : PySem.W.codeIn K cd23 "best_table" = true) (k23 : PySem.W.keepIn K (.ref f23) = true)
    (a24 : PySem.W.nsIn K mainGlobals "least" = some (some (.ref f24))) (l24 : K.lookup f24 = some ⟨oc24, od24, .func (PySem.W.fnOf "least" "least" (defArgs s_least) (defBody s_least) (defScope s_least) .none kV24 dc24 pm24 an24 cd24 ct24), sl24⟩) (c24 : PySem.W.codeIn K cd24 "least" = true) (k24 : PySem.W.keepIn K (.ref f24) = true)
    (a25 : PySem.W.findIn K (.ref cl0) "cord" = some (some (.ref f25))) (i25 : PySem.W.isFn K (.ref f25) = true) (l25 : K.lookup f25 = some ⟨oc25, od25, .func (PySem.W.fnOf "cord" "Hall.cord" (defArgs s_Hall_cord) (defBody s_Hall_cord) (defScope s_Hall_cord) .none kV25 dc25 pm25 an25 cd25 ct25), sl25⟩) (c25 : PySem.W.codeIn K cd25 "Hall.cord" = true) (k25 : PySem.W.keepIn K (.ref f25) = true)
    (a26 : PySem.W.findIn K (.ref cl0) "left" = some (some (.ref f26))) (i26 : PySem.W.isFn K (.ref f26) = true) (l26 : K.lookup f26 = some ⟨oc26, od26, .func (PySem.W.fnOf "left" "Hall.left" (defArgs s_Hall_left) (defBody s_Hall_left) (defScope s_Hall_left) .none kV26 dc26 pm26 an26 cd26 ct26), sl26⟩) (c26 : PySem.W.codeIn K cd26 "Hall.left" = true) (k26 : PySem.W.keepIn K (.ref f26) = true)
    (a27 : PySem.W.nsIn K mainGlobals "back" = some (some (.ref f27))) (l27 : K.lookup f27 = some ⟨oc27, od27, .func (PySem.W.fnOf "back" "back" (defArgs s_back) (defBody s_back) (defScope s_back) .none kV27 dc27 pm27 an27 cd27 ct27), sl27⟩) (c27 : PySem.W.codeIn K cd27 "back" = true) (k27 : PySem.W.keepIn K (.ref f27) = true)
    (a28 : PySem.W.nsIn K mainGlobals "between" = some (some (.ref f28))) (l28 : K.lookup f28 = some ⟨oc28, od28, .func (PySem.W.fnOf "between" "between" (defArgs s_between) (defBody s_between) (defScope s_between) .none kV28 dc28 pm28 an28 cd28 ct28), sl28⟩) (c28 : PySem.W.codeIn K cd28 "between" = true) (k28 : PySem.W.keepIn K (.ref f28) = true)
    (a29 : PySem.W.findIn K (.ref cl0) "apart" = some (some (.ref f29))) (i29 : PySem.W.isFn K (.ref f29) = true) (l29 : K.lookup f29 = some ⟨oc29, od29, .func (PySem.W.fnOf "apart" "Hall.apart" (defArgs s_Hall_apart) (defBody s_Hall_apart) (defScope s_Hall_apart) .none kV29 dc29 pm29 an29 cd29 ct29), sl29⟩) (c29 : PySem.W.codeIn K cd29 "Hall.apart" = true) (k29 : PySem.W.keepIn K (.ref f29) = true)
    (a30 : PySem.W.nsIn K mainGlobals "nesting" = some (some (.ref f30))) (l30 : K.lookup f30 = some ⟨oc30, od30, .func (PySem.W.fnOf "nesting" "nesting" (defArgs s_nesting) (defBody s_nesting) (defScope s_nesting) .none kV30 dc30 pm30 an30 cd30 ct30), sl30⟩) (c30 : PySem.W.codeIn K cd30 "nesting" = true) (k30 : PySem.W.keepIn K (.ref f30) = true)
    (a31 : PySem.W.nsIn K mainGlobals "without" = some (some (.ref f31))) (l31 : K.lookup f31 = some ⟨oc31, od31, .func (PySem.W.fnOf "without" "without" (defArgs s_without) (defBody s_without) (defScope s_without) .none kV31 dc31 pm31 an31 cd31 ct31), sl31⟩) (c31 : PySem.W.codeIn K cd31 "without" = true) (k31 : PySem.W.keepIn K (.ref f31) = true)
    (a32 : PySem.W.nsIn K mainGlobals "liftings" = some (some (.ref f32))) (l32 : K.lookup f32 = some ⟨oc32, od32, .func (PySem.W.fnOf "liftings" "liftings" (defArgs s_liftings) (defBody s_liftings) (defScope s_liftings) .none kV32 dc32 pm32 an32 cd32 ct32), sl32⟩) (c32 : PySem.W.codeIn K cd32 "liftings" = true) (k32 : PySem.W.keepIn K (.ref f32) = true)
    (a33 : PySem.W.nsIn K mainGlobals "_law_tight" = some (some (.ref f33))) (l33 : K.lookup f33 = some ⟨oc33, od33, .func (PySem.W.fnOf "_law_tight" "_law_tight" (defArgs s_ltight) (defBody s_ltight) (defScope s_ltight) .none kV33 dc33 pm33 an33 cd33 ct33), sl33⟩) (c33 : PySem.W.codeIn K cd33 "_law_tight" = true) (k33 : PySem.W.keepIn K (.ref f33) = true)
    (a34 : PySem.W.nsIn K mainGlobals "_law_back" = some (some (.ref f34))) (l34 : K.lookup f34 = some ⟨oc34, od34, .func (PySem.W.fnOf "_law_back" "_law_back" (defArgs s_lback) (defBody s_lback) (defScope s_lback) .none kV34 dc34 pm34 an34 cd34 ct34), sl34⟩) (c34 : PySem.W.codeIn K cd34 "_law_back" = true) (k34 : PySem.W.keepIn K (.ref f34) = true)
    (a35 : PySem.W.nsIn K mainGlobals "_law_step" = some (some (.ref f35))) (l35 : K.lookup f35 = some ⟨oc35, od35, .func (PySem.W.fnOf "_law_step" "_law_step" (defArgs s_lstep) (defBody s_lstep) (defScope s_lstep) .none kV35 dc35 pm35 an35 cd35 ct35), sl35⟩) (c35 : PySem.W.codeIn K cd35 "_law_step" = true) (k35 : PySem.W.keepIn K (.ref f35) = true)
    (a36 : PySem.W.findIn K (.ref cl0) "price" = some (some (.ref f36))) (i36 : PySem.W.isFn K (.ref f36) = true) (l36 : K.lookup f36 = some ⟨oc36, od36, .func (PySem.W.fnOf "price" "Hall.price" (defArgs s_Hall_price) (defBody s_Hall_price) (defScope s_Hall_price) .none kV36 dc36 pm36 an36 cd36 ct36), sl36⟩) (c36 : PySem.W.codeIn K cd36 "Hall.price" = true) (k36 : PySem.W.keepIn K (.ref f36) = true)
    (a37 : PySem.W.findIn K (.ref cl0) "take_out" = some (some (.ref f37))) (i37 : PySem.W.isFn K (.ref f37) = true) (l37 : K.lookup f37 = some ⟨oc37, od37, .func (PySem.W.fnOf "take_out" "Hall.take_out" (defArgs s_Hall_take_out) (defBody s_Hall_take_out) (defScope s_Hall_take_out) .none kV37 dc37 pm37 an37 cd37 ct37), sl37⟩) (c37 : PySem.W.codeIn K cd37 "Hall.take_out" = true) (k37 : PySem.W.keepIn K (.ref f37) = true)
    (a38 : PySem.W.findIn K (.ref cl0) "short" = some (some (.ref f38))) (i38 : PySem.W.isFn K (.ref f38) = true) (l38 : K.lookup f38 = some ⟨oc38, od38, .func (PySem.W.fnOf "short" "Hall.short" (defArgs s_Hall_short) (defBody s_Hall_short) (defScope s_Hall_short) .none kV38 dc38 pm38 an38 cd38 ct38), sl38⟩) (c38 : PySem.W.codeIn K cd38 "Hall.short" = true) (k38 : PySem.W.keepIn K (.ref f38) = true)
    (a39 : PySem.W.findIn K (.ref cl0) "put_in" = some (some (.ref f39))) (i39 : PySem.W.isFn K (.ref f39) = true) (l39 : K.lookup f39 = some ⟨oc39, od39, .func (PySem.W.fnOf "put_in" "Hall.put_in" (defArgs s_Hall_put_in) (defBody s_Hall_put_in) (defScope s_Hall_put_in) .none kV39 dc39 pm39 an39 cd39 ct39), sl39⟩) (c39 : PySem.W.codeIn K cd39 "Hall.put_in" = true) (k39 : PySem.W.keepIn K (.ref f39) = true)
    (a40 : PySem.W.findIn K (.ref cl0) "paid" = some (some (.ref f40))) (i40 : PySem.W.isFn K (.ref f40) = true) (l40 : K.lookup f40 = some ⟨oc40, od40, .func (PySem.W.fnOf "paid" "Hall.paid" (defArgs s_Hall_paid) (defBody s_Hall_paid) (defScope s_Hall_paid) .none kV40 dc40 pm40 an40 cd40 ct40), sl40⟩) (c40 : PySem.W.codeIn K cd40 "Hall.paid" = true) (k40 : PySem.W.keepIn K (.ref f40) = true)
    (a41 : PySem.W.nsIn K mainGlobals "_law_led" = some (some (.ref f41))) (l41 : K.lookup f41 = some ⟨oc41, od41, .func (PySem.W.fnOf "_law_led" "_law_led" (defArgs s_lled) (defBody s_lled) (defScope s_lled) .none kV41 dc41 pm41 an41 cd41 ct41), sl41⟩) (c41 : PySem.W.codeIn K cd41 "_law_led" = true) (k41 : PySem.W.keepIn K (.ref f41) = true)
    (a42 : PySem.W.findIn K (.ref cl0) "back" = some (some (.ref f42))) (i42 : PySem.W.isFn K (.ref f42) = true) (l42 : K.lookup f42 = some ⟨oc42, od42, .func (PySem.W.fnOf "back" "Hall.back" (defArgs s_Hall_back) (defBody s_Hall_back) (defScope s_Hall_back) .none kV42 dc42 pm42 an42 cd42 ct42), sl42⟩) (c42 : PySem.W.codeIn K cd42 "Hall.back" = true) (k42 : PySem.W.keepIn K (.ref f42) = true)
    (a43 : PySem.W.findIn K (.ref cl0) "cords" = some (some (.ref f43))) (i43 : PySem.W.isFn K (.ref f43) = true) (l43 : K.lookup f43 = some ⟨oc43, od43, .func (PySem.W.fnOf "cords" "Hall.cords" (defArgs s_Hall_cords) (defBody s_Hall_cords) (defScope s_Hall_cords) .none kV43 dc43 pm43 an43 cd43 ct43), sl43⟩) (c43 : PySem.W.codeIn K cd43 "Hall.cords" = true) (k43 : PySem.W.keepIn K (.ref f43) = true)
    (a44 : PySem.W.nsIn K mainGlobals "_law_costs" = some (some (.ref f44))) (l44 : K.lookup f44 = some ⟨oc44, od44, .func (PySem.W.fnOf "_law_costs" "_law_costs" (defArgs s_lcosts) (defBody s_lcosts) (defScope s_lcosts) .none kV44 dc44 pm44 an44 cd44 ct44), sl44⟩) (c44 : PySem.W.codeIn K cd44 "_law_costs" = true) (k44 : PySem.W.keepIn K (.ref f44) = true)
    (a45 : PySem.W.nsIn K mainGlobals "_law_priced" = some (some (.ref f45))) (l45 : K.lookup f45 = some ⟨oc45, od45, .func (PySem.W.fnOf "_law_priced" "_law_priced" (defArgs s_lpriced) (defBody s_lpriced) (defScope s_lpriced) .none kV45 dc45 pm45 an45 cd45 ct45), sl45⟩) (c45 : PySem.W.codeIn K cd45 "_law_priced" = true) (k45 : PySem.W.keepIn K (.ref f45) = true)
    (a46 : PySem.W.nsIn K mainGlobals "_law_below" = some (some (.ref f46))) (l46 : K.lookup f46 = some ⟨oc46, od46, .func (PySem.W.fnOf "_law_below" "_law_below" (defArgs s_lbelow) (defBody s_lbelow) (defScope s_lbelow) .none kV46 dc46 pm46 an46 cd46 ct46), sl46⟩) (c46 : PySem.W.codeIn K cd46 "_law_below" = true) (k46 : PySem.W.keepIn K (.ref f46) = true)
    (a47 : PySem.W.nsIn K mainGlobals "_law_plus" = some (some (.ref f47))) (l47 : K.lookup f47 = some ⟨oc47, od47, .func (PySem.W.fnOf "_law_plus" "_law_plus" (defArgs s_lplus) (defBody s_lplus) (defScope s_lplus) .none kV47 dc47 pm47 an47 cd47 ct47), sl47⟩) (c47 : PySem.W.codeIn K cd47 "_law_plus" = true) (k47 : PySem.W.keepIn K (.ref f47) = true)
    (a48 : PySem.W.findIn K (.ref cl0) "lay_on" = some (some (.ref f48))) (i48 : PySem.W.isFn K (.ref f48) = true) (l48 : K.lookup f48 = some ⟨oc48, od48, .func (PySem.W.fnOf "lay_on" "Hall.lay_on" (defArgs s_Hall_lay_on) (defBody s_Hall_lay_on) (defScope s_Hall_lay_on) .none kV48 dc48 pm48 an48 cd48 ct48), sl48⟩) (c48 : PySem.W.codeIn K cd48 "Hall.lay_on" = true) (k48 : PySem.W.keepIn K (.ref f48) = true)
    (a49 : PySem.W.nsIn K mainGlobals "law" = some (some (.ref f49))) (l49 : K.lookup f49 = some ⟨oc49, od49, .func (PySem.W.fnOf "law" "law" (defArgs s_law) (defBody s_law) (defScope s_law) .none kV49 dc49 pm49 an49 cd49 ct49), sl49⟩) (c49 : PySem.W.codeIn K cd49 "law" = true) (k49 : PySem.W.keepIn K (.ref f49) = true)
    (z0 : PySem.W.nsIn K mainGlobals "len" = some none)
    (z1 : PySem.W.nsIn K mainGlobals "range" = some none)
    (z2 : PySem.W.nsIn K mainGlobals "min" = some none)
    (z3 : PySem.W.nsIn K mainGlobals "max" = some none)
    (z4 : PySem.W.nsIn K mainGlobals "tuple" = some none)
    (z5 : PySem.W.nsIn K mainGlobals "int" = some none)
    (z6 : PySem.W.nsIn K mainGlobals "sorted" = some none)
    (z7 : PySem.W.nsIn K mainGlobals "isinstance" = some none)
    (z8 : PySem.W.nsIn K mainGlobals "bool" = some none)
    (z9 : PySem.W.nsIn K mainGlobals "str" = some none)
    (z10 : PySem.W.nsIn K mainGlobals "list" = some none)
    (z11 : PySem.W.nsIn K mainGlobals "all" = some none)
    (z12 : PySem.W.nsIn K mainGlobals "zip" = some none)
    (z13 : PySem.W.nsIn K mainGlobals "dict" = some none)
    : ∃ fd : FuncData, (∀ (s : Shared) (v : Value), BindsTo s fd ⟨[v], []⟩ [("_law_script", v)]) ∧ ∀ base : Heap, K.In base → base.Ns mainGlobals mg → FnOk l.prog w K mg base CX0 9 fa fd ["_law_script"]
        (fun vs H Q _ => ∃ (a : Addr) (ns : List Int), vs = [.ref a] ∧ SqL K H a (ns.map V.int) ∧ ns.length ≤ 63 ∧ ∀ H1, Q (.bl true) H1) := by
  have e := hfa.symm.trans (PySem.W.mg_of X G a49)
  cases e
  have F0 := fun_mk (st := s_ldraws) l0 c0 k0
  have b0 := F0.binds (ps := ["_law_script", "_law_k"]) fun _ _ _ _ _ _ us hl => match us, hl with | [_, _], _ => rfl
  have m0 := PySem.W.mg_of X G a0
  have F1 := fun_mk (st := s_ldraw) l1 c1 k1
  have b1 := F1.binds (ps := ["_law_draws_here", "_law_many"]) fun _ _ _ _ _ _ us hl => match us, hl with | [_, _], _ => rfl
  have m1 := PySem.W.mg_of X G a1
  have F2 := fun_mk (st := s_lof) l2 c2 k2
  have b2 := F2.binds (ps := ["_law_draws_here", "_law_some"]) fun _ _ _ _ _ _ us hl => match us, hl with | [_, _], _ => rfl
  have m2 := PySem.W.mg_of X G a2
  have F3 := fun_mk (st := s_lfloor) l3 c3 k3
  have b3 := F3.binds (ps := ["_law_draws_here", "_law_many"]) fun _ _ _ _ _ _ us hl => match us, hl with | [_, _], _ => rfl
  have m3 := PySem.W.mg_of X G a3
  have F4 := fun_mk (st := s_lturns) l4 c4 k4
  have b4 := F4.binds (ps := ["_law_floor_here"]) fun _ _ _ _ _ _ us hl => match us, hl with | [_], _ => rfl
  have m4 := PySem.W.mg_of X G a4
  have F5 := fun_mk (st := s_lundoes) l5 c5 k5
  have b5 := F5.binds (ps := ["_law_turn"]) fun _ _ _ _ _ _ us hl => match us, hl with | [_], _ => rfl
  have m5 := PySem.W.mg_of X G a5
  have F6 := fun_mk (st := s_lrow) l6 c6 k6
  have b6 := F6.binds (ps := ["_law_draws_here", "_law_floor_here", "_law_many"]) fun _ _ _ _ _ _ us hl => match us, hl with | [_, _, _], _ => rfl
  have m6 := PySem.W.mg_of X G a6
  have F7 := fun_mk (st := s_is_between) l7 c7 k7
  have b7 := F7.binds (ps := ["thing", "low", "high"]) fun _ _ _ _ _ _ us hl => match us, hl with | [_, _, _], _ => rfl
  have m7 := PySem.W.mg_of X G a7
  have F8 := fun_mk (st := s_is_post) l8 c8 k8
  have b8 := F8.binds (ps := ["thing"]) fun _ _ _ _ _ _ us hl => match us, hl with | [_], _ => rfl
  have m8 := PySem.W.mg_of X G a8
  have F9 := fun_mk (st := s_is_floor) l9 c9 k9
  have b9 := F9.binds (ps := ["thing"]) fun _ _ _ _ _ _ us hl => match us, hl with | [_], _ => rfl
  have m9 := PySem.W.mg_of X G a9
  have F10 := fun_mk (st := s_Hall___init__) l10 c10 k10
  have b10 := F10.binds (ps := ["self", "floor"]) fun _ _ _ _ _ _ us hl => match us, hl with | [_, _], _ => rfl
  have m10 : Meth K cl0 "__init__" f10 := ⟨a10, i10, k10⟩
  have F11 := fun_mk (st := s_is_name) l11 c11 k11
  have b11 := F11.binds (ps := ["thing"]) fun _ _ _ _ _ _ us hl => match us, hl with | [_], _ => rfl
  have m11 := PySem.W.mg_of X G a11
  have F12 := fun_mk (st := s_undoes) l12 c12 k12
  have b12 := F12.binds (ps := ["turn"]) fun _ _ _ _ _ _ us hl => match us, hl with | [_], _ => rfl
  have m12 := PySem.W.mg_of X G a12
  have F13 := fun_mk (st := s_tight) l13 c13 k13
  have b13 := F13.binds (ps := ["row"]) fun _ _ _ _ _ _ us hl => match us, hl with | [_], _ => rfl
  have m13 := PySem.W.mg_of X G a13
  have F14 := fun_mk (st := s_costs_of) l14 c14 k14
  have b14 := F14.binds (ps := ["floor"]) fun _ _ _ _ _ _ us hl => match us, hl with | [_], _ => rfl
  have m14 := PySem.W.mg_of X G a14
  have F15 := fun_mk (st := s_are_turns) l15 c15 k15
  have b15 := F15.binds (ps := ["floor", "thing", "most"]) fun _ _ _ _ _ _ us hl => match us, hl with | [_, _, _], _ => rfl
  have m15 := PySem.W.mg_of X G a15
  have F16 := fun_mk (st := s_is_row) l16 c16 k16
  have b16 := F16.binds (ps := ["floor", "thing"]) fun _ _ _ _ _ _ us hl => match us, hl with | [_, _], _ => rfl
  have m16 := PySem.W.mg_of X G a16
  have F17 := fun_mk (st := s_Hall_need_row) l17 c17 k17
  have b17 := F17.binds (ps := ["self", "row"]) fun _ _ _ _ _ _ us hl => match us, hl with | [_, _], _ => rfl
  have m17 : Meth K cl0 "need_row" f17 := ⟨a17, i17, k17⟩
  have F18 := fun_mk (st := s_Hall___len__) l18 c18 k18
  have b18 := F18.binds (ps := ["self"]) fun _ _ _ _ _ _ us hl => match us, hl with | [_], _ => rfl
  have m18 : Meth K cl0 "__len__" f18 := ⟨a18, i18, k18⟩
  have F19 := fun_mk (st := s_Hall_keep) l19 c19 k19
  have b19 := F19.binds (ps := ["self", "name", "row", "cost"]) fun _ _ _ _ _ _ us hl => match us, hl with | [_, _, _, _], _ => rfl
  have m19 : Meth K cl0 "keep" f19 := ⟨a19, i19, k19⟩
  have F20 := fun_mk (st := s_Hall_lay) l20 c20 k20
  have b20 := F20.binds (ps := ["self", "name", "row"]) fun _ _ _ _ _ _ us hl => match us, hl with | [_, _, _], _ => rfl
  have m20 : Meth K cl0 "lay" f20 := ⟨a20, i20, k20⟩
  have F21 := fun_mk (st := s_plus) l21 c21 k21
  have b21 := F21.binds (ps := ["one", "other"]) fun _ _ _ _ _ _ us hl => match us, hl with | [_, _], _ => rfl
  have m21 := PySem.W.mg_of X G a21
  have F22 := fun_mk (st := s_ways) l22 c22 k22
  have b22 := F22.binds (ps := ["row", "costs", "table", "begin", "long"]) fun _ _ _ _ _ _ us hl => match us, hl with | [_, _, _, _, _], _ => rfl
  have m22 := PySem.W.mg_of X G a22
  have F23 := fun_mk (st := s_best_table) l23 c23 k23
  have b23 := F23.binds (ps := ["floor", "row"]) fun _ _ _ _ _ _ us hl => match us, hl with | [_, _], _ => rfl
  have m23 := PySem.W.mg_of X G a23
  have F24 := fun_mk (st := s_least) l24 c24 k24
  have b24 := F24.binds (ps := ["floor", "row"]) fun _ _ _ _ _ _ us hl => match us, hl with | [_, _], _ => rfl
  have m24 := PySem.W.mg_of X G a24
  have F25 := fun_mk (st := s_Hall_cord) l25 c25 k25
  have b25 := F25.binds (ps := ["self", "name"]) fun _ _ _ _ _ _ us hl => match us, hl with | [_, _], _ => rfl
  have m25 : Meth K cl0 "cord" f25 := ⟨a25, i25, k25⟩
  have F26 := fun_mk (st := s_Hall_left) l26 c26 k26
  have b26 := F26.binds (ps := ["self", "name"]) fun _ _ _ _ _ _ us hl => match us, hl with | [_, _], _ => rfl
  have m26 : Meth K cl0 "left" f26 := ⟨a26, i26, k26⟩
  have F27 := fun_mk (st := s_back) l27 c27 k27
  have b27 := F27.binds (ps := ["row"]) fun _ _ _ _ _ _ us hl => match us, hl with | [_], _ => rfl
  have m27 := PySem.W.mg_of X G a27
  have F28 := fun_mk (st := s_between) l28 c28 k28
  have b28 := F28.binds (ps := ["floor", "row", "other"]) fun _ _ _ _ _ _ us hl => match us, hl with | [_, _, _], _ => rfl
  have m28 := PySem.W.mg_of X G a28
  have F29 := fun_mk (st := s_Hall_apart) l29 c29 k29
  have b29 := F29.binds (ps := ["self", "name", "other"]) fun _ _ _ _ _ _ us hl => match us, hl with | [_, _, _], _ => rfl
  have m29 : Meth K cl0 "apart" f29 := ⟨a29, i29, k29⟩
  have F30 := fun_mk (st := s_nesting) l30 c30 k30
  have b30 := F30.binds (ps := ["floor", "row"]) fun _ _ _ _ _ _ us hl => match us, hl with | [_, _], _ => rfl
  have m30 := PySem.W.mg_of X G a30
  have F31 := fun_mk (st := s_without) l31 c31 k31
  have b31 := F31.binds (ps := ["row", "places"]) fun _ _ _ _ _ _ us hl => match us, hl with | [_, _], _ => rfl
  have m31 := PySem.W.mg_of X G a31
  have F32 := fun_mk (st := s_liftings) l32 c32 k32
  have b32 := F32.binds (ps := ["floor", "row", "other"]) fun _ _ _ _ _ _ us hl => match us, hl with | [_, _, _], _ => rfl
  have m32 := PySem.W.mg_of X G a32
  have F33 := fun_mk (st := s_ltight) l33 c33 k33
  have b33 := F33.binds (ps := ["_law_row_here"]) fun _ _ _ _ _ _ us hl => match us, hl with | [_], _ => rfl
  have m33 := PySem.W.mg_of X G a33
  have F34 := fun_mk (st := s_lback) l34 c34 k34
  have b34 := F34.binds (ps := ["_law_row_here"]) fun _ _ _ _ _ _ us hl => match us, hl with | [_], _ => rfl
  have m34 := PySem.W.mg_of X G a34
  have F35 := fun_mk (st := s_lstep) l35 c35 k35
  have b35 := F35.binds (ps := ["_law_one", "_law_other"]) fun _ _ _ _ _ _ us hl => match us, hl with | [_, _], _ => rfl
  have m35 := PySem.W.mg_of X G a35
  have F36 := fun_mk (st := s_Hall_price) l36 c36 k36
  have b36 := F36.binds (ps := ["self", "turn"]) fun _ _ _ _ _ _ us hl => match us, hl with | [_, _], _ => rfl
  have m36 : Meth K cl0 "price" f36 := ⟨a36, i36, k36⟩
  have F37 := fun_mk (st := s_Hall_take_out) l37 c37 k37
  have b37 := F37.binds (ps := ["self", "name", "place"]) fun _ _ _ _ _ _ us hl => match us, hl with | [_, _, _], _ => rfl
  have m37 : Meth K cl0 "take_out" f37 := ⟨a37, i37, k37⟩
  have F38 := fun_mk (st := s_Hall_short) l38 c38 k38
  have b38 := F38.binds (ps := ["self", "row"]) fun _ _ _ _ _ _ us hl => match us, hl with | [_, _], _ => rfl
  have m38 : Meth K cl0 "short" f38 := ⟨a38, i38, k38⟩
  have F39 := fun_mk (st := s_Hall_put_in) l39 c39 k39
  have b39 := F39.binds (ps := ["self", "name", "place", "turn"]) fun _ _ _ _ _ _ us hl => match us, hl with | [_, _, _, _], _ => rfl
  have m39 : Meth K cl0 "put_in" f39 := ⟨a39, i39, k39⟩
  have F40 := fun_mk (st := s_Hall_paid) l40 c40 k40
  have b40 := F40.binds (ps := ["self"]) fun _ _ _ _ _ _ us hl => match us, hl with | [_], _ => rfl
  have m40 : Meth K cl0 "paid" f40 := ⟨a40, i40, k40⟩
  have F41 := fun_mk (st := s_lled) l41 c41 k41
  have b41 := F41.binds (ps := ["_law_hall", "_law_name", "_law_steps"]) fun _ _ _ _ _ _ us hl => match us, hl with | [_, _, _], _ => rfl
  have m41 := PySem.W.mg_of X G a41
  have F42 := fun_mk (st := s_Hall_back) l42 c42 k42
  have b42 := F42.binds (ps := ["self"]) fun _ _ _ _ _ _ us hl => match us, hl with | [_], _ => rfl
  have m42 : Meth K cl0 "back" f42 := ⟨a42, i42, k42⟩
  have F43 := fun_mk (st := s_Hall_cords) l43 c43 k43
  have b43 := F43.binds (ps := ["self"]) fun _ _ _ _ _ _ us hl => match us, hl with | [_], _ => rfl
  have m43 : Meth K cl0 "cords" f43 := ⟨a43, i43, k43⟩
  have F44 := fun_mk (st := s_lcosts) l44 c44 k44
  have b44 := F44.binds (ps := ["_law_floor_here"]) fun _ _ _ _ _ _ us hl => match us, hl with | [_], _ => rfl
  have m44 := PySem.W.mg_of X G a44
  have F45 := fun_mk (st := s_lpriced) l45 c45 k45
  have b45 := F45.binds (ps := ["_law_floor_here"]) fun _ _ _ _ _ _ us hl => match us, hl with | [_], _ => rfl
  have m45 := PySem.W.mg_of X G a45
  have F46 := fun_mk (st := s_lbelow) l46 c46 k46
  have b46 := F46.binds (ps := ["_law_one", "_law_other"]) fun _ _ _ _ _ _ us hl => match us, hl with | [_, _], _ => rfl
  have m46 := PySem.W.mg_of X G a46
  have F47 := fun_mk (st := s_lplus) l47 c47 k47
  have b47 := F47.binds (ps := ["_law_one", "_law_other"]) fun _ _ _ _ _ _ us hl => match us, hl with | [_, _], _ => rfl
  have m47 := PySem.W.mg_of X G a47
  have F48 := fun_mk (st := s_Hall_lay_on) l48 c48 k48
  have b48 := F48.binds (ps := ["self", "name", "row"]) fun _ _ _ _ _ _ us hl => match us, hl with | [_, _, _], _ => rfl
  have m48 : Meth K cl0 "lay_on" f48 := ⟨a48, i48, k48⟩
  have F49 := fun_mk (st := s_law) l49 c49 k49
  have hk : HallK K cl0 := ⟨⟨pg, hd, po, sa⟩, nf0, nf1, nf2⟩
  have mC := PySem.W.mg_of X G aC
  have n_len := PySem.W.mg_none_of X G z0
  have n_range := PySem.W.mg_none_of X G z1
  have n_min := PySem.W.mg_none_of X G z2
  have n_max := PySem.W.mg_none_of X G z3
  have n_tuple := PySem.W.mg_none_of X G z4
  have n_int := PySem.W.mg_none_of X G z5
  have n_sorted := PySem.W.mg_none_of X G z6
  have n_isinstance := PySem.W.mg_none_of X G z7
  have n_bool := PySem.W.mg_none_of X G z8
  have n_str := PySem.W.mg_none_of X G z9
  have n_list := PySem.W.mg_none_of X G z10
  have n_all := PySem.W.mg_none_of X G z11
  have n_zip := PySem.W.mg_none_of X G z12
  have n_dict := PySem.W.mg_none_of X G z13
  have s_LETTERS := PySem.W.mg_of X G g0
  have s_GREAT := PySem.W.mg_of X G g1
  have i_MOST_POSTS := PySem.W.mg_of X G gi0
  have i_MOST_COST := PySem.W.mg_of X G gi1
  have i_MOST_TURNS := PySem.W.mg_of X G gi2
  have i_MOST_CORDS := PySem.W.mg_of X G gi3
  have i_MOST_APART := PySem.W.mg_of X G gi4
  refine ⟨PySem.W.fnOf "law" "law" (defArgs s_law) (defBody s_law) (defScope s_law) .none kV49 dc49 pm49 an49 cd49 ct49, fun s v => .of_eq rfl, fun base _ _ => ?_⟩
  let M : Md := ⟨l.prog, w, K, mg, base⟩
  have k_cDs := ok_ldraws (M := M) (k := 0) F0  n_len n_int
  have cDs : DrawsC M 1 := cal_mk k_cDs m0 k0 b0
  have k_cD := ok_ldraw (M := M) (k := 0) F1  
  have cD : DrawC M 1 := cal_mk k_cD m1 k1 b1
  have k_cO := ok_lof (M := M) (k := 1) F2 (cD.mono (by decide)) n_len
  have cO : OfC M 2 := cal_mk k_cO m2 k2 b2
  have k_cF := ok_lfloor (M := M) (k := 2) F3 (cD.mono (by decide)) (cO.mono (by decide)) n_tuple
  have cF : FloorC M 3 := cal_mk k_cF m3 k3 b3
  have k_cTn := ok_lturns (M := M) (k := 0) F4  
  have cTn : TurnsC M 1 := cal_mk k_cTn m4 k4 b4
  have k_cLU := ok_lundoes (M := M) (k := 0) F5  
  have cLU : LUndoesC M 1 := cal_mk k_cLU m5 k5 b5
  have k_cR := ok_lrow (M := M) (k := 2) F6 (cD.mono (by decide)) (cO.mono (by decide)) (cTn.mono (by decide)) (cLU.mono (by decide)) n_len n_range
  have cR : RowC M 3 := cal_mk k_cR m6 k6 b6
  have k_cIb := ok_isbetween (M := M) (k := 0) F7  n_isinstance n_int n_bool
  have cIb : BetweenC M 1 := cal_mk k_cIb m7 k7 b7
  have k_cIPo := ok_ispost (M := M) (k := 1) F8 (cIb.mono (by decide)) ⟨_, s_LETTERS⟩ ⟨_, i_MOST_COST⟩ n_isinstance n_tuple n_str n_len
  have cIPo : IsPostC M 2 := cal_mk k_cIPo m8 k8 b8
  have k_cIF := ok_isfloor (M := M) (k := 2) F9 (cIPo.mono (by decide)) ⟨_, i_MOST_POSTS⟩ n_isinstance n_tuple n_len n_all n_zip
  have cIF : IsFloorC M 3 := cal_mk k_cIF m9 k9 b9
  have k_hMake := ok_init (M := M) (k := 3) F10 hk (cIF.mono (by decide)) 
  have hMake : MakeC M 4 cl0 := ⟨⟨_, _, _, k_hMake, ⟨mk, a10, i10, kc⟩, mC, b10⟩⟩
  have k_cINa := ok_isname (M := M) (k := 0) F11  ⟨_, s_LETTERS⟩ n_isinstance n_str n_len n_all
  have cINa : IsNameC M 1 := cal_mk k_cINa m11 k11 b11
  have k_cU := ok_undoes (M := M) (k := 0) F12  ⟨_, s_LETTERS⟩ ⟨_, s_GREAT⟩
  have cU : UndoesC M 1 := cal_mk k_cU m12 k12 b12
  have k_cT := ok_tight (M := M) (k := 1) F13 (cU.mono (by decide)) 
  have cT : TightC M 2 := cal_mk k_cT m13 k13 b13
  have k_cC := ok_costs (M := M) (k := 1) F14 (cU.mono (by decide)) 
  have cC : CostsC M 2 := cal_mk k_cC m14 k14 b14
  have k_cAr := ok_areturns (M := M) (k := 2) F15 (cC.mono (by decide)) n_isinstance n_str n_len n_all
  have cAr : AreC M 3 := cal_mk k_cAr m15 k15 b15
  have k_cIR := ok_isrow (M := M) (k := 3) F16 (cAr.mono (by decide)) ⟨_, i_MOST_TURNS⟩
  have cIR : IsRowC M 4 := cal_mk k_cIR m16 k16 b16
  have k_hNeed := ok_need (M := M) (k := 4) F17 hk (cIR.mono (by decide)) 
  have hNeed : NeedC M 5 cl0 := ⟨⟨_, _, _, k_hNeed, m17, b17⟩⟩
  have k_hLen := ok_hlen (M := M) (k := 0) F18 hk n_len
  have hLen : HLenC M 1 cl0 := ⟨⟨_, _, _, k_hLen, m18, b18⟩⟩
  have k_hKeep := ok_keep (M := M) (k := 0) F19 hk 
  have hKeep : KeepC M 1 cl0 := ⟨⟨_, _, _, k_hKeep, m19, b19⟩⟩
  have k_hLay := ok_lay (M := M) (k := 5) F20 hk (cINa.mono (by decide)) (cT.mono (by decide)) (hNeed.mono (by decide)) (hLen.mono (by decide)) (hKeep.mono (by decide)) n_len ⟨_, i_MOST_CORDS⟩
  have hLay : LayC M 7 cl0 := ⟨⟨_, _, _, k_hLay, m20, b20⟩⟩
  have k_cP := ok_plus (M := M) (k := 0) F21  
  have cP : PlusC M 1 := cal_mk k_cP m21 k21 b21
  have k_cW := ok_ways (M := M) (k := 1) F22 (cU.mono (by decide)) (cP.mono (by decide)) n_range
  have cW : WaysC M 2 := cal_mk k_cW m22 k22 b22
  have k_cBt := ok_best (M := M) (k := 2) F23 (cC.mono (by decide)) (cW.mono (by decide)) n_len n_range n_min
  have cBt : BestC M 3 := cal_mk k_cBt m23 k23 b23
  have k_cLt := ok_least (M := M) (k := 3) F24 (cBt.mono (by decide)) n_len
  have cLt : LeastC M 4 := cal_mk k_cLt m24 k24 b24
  have k_hCord := ok_cord (M := M) (k := 0) F25 hk n_isinstance n_str
  have hCord : CordC M 1 cl0 := ⟨⟨_, _, _, k_hCord, m25, b25⟩⟩
  have k_hLeft := ok_left (M := M) (k := 4) F26 hk (cLt.mono (by decide)) (hCord.mono (by decide)) 
  have hLeft : LeftC M 5 cl0 := ⟨⟨_, _, _, k_hLeft, m26, b26⟩⟩
  have k_cB := ok_back (M := M) (k := 1) F27 (cU.mono (by decide)) 
  have cB : BackC M 2 := cal_mk k_cB m27 k27 b27
  have k_cBw := ok_between (M := M) (k := 4) F28 (cB.mono (by decide)) (cLt.mono (by decide)) 
  have cBw : BetwC M 5 := cal_mk k_cBw m28 k28 b28
  have k_hApart := ok_apart (M := M) (k := 5) F29 hk (cBw.mono (by decide)) (hCord.mono (by decide)) n_len n_max ⟨_, i_MOST_APART⟩
  have hApart : ApartC M 6 cl0 := ⟨⟨_, _, _, k_hApart, m29, b29⟩⟩
  have k_cN := ok_nesting (M := M) (k := 3) F30 (cBt.mono (by decide)) (cC.mono (by decide)) (cW.mono (by decide)) n_len n_tuple n_sorted
  have cN : NestC M 4 := cal_mk k_cN m30 k30 b30
  have k_cWo := ok_without (M := M) (k := 0) F31  n_sorted
  have cWo : WithC M 1 := cal_mk k_cWo m31 k31 b31
  have k_cLgs := ok_liftings (M := M) (k := 4) F32 (cB.mono (by decide)) (cN.mono (by decide)) (cWo.mono (by decide)) (cT.mono (by decide)) n_len n_range
  have cLgs : LiftsC M 5 := cal_mk k_cLgs m32 k32 b32
  have k_cLTt := ok_ltight (M := M) (k := 1) F33 (cLU.mono (by decide)) n_len n_max
  have cLTt : LTightC M 2 := cal_mk k_cLTt m33 k33 b33
  have k_lBk := ok_lback (M := M) (k := 1) F34 (cLU.mono (by decide)) 
  have lBk : LBackC M 2 := cal_mk k_lBk m34 k34 b34
  have k_cLSt := ok_lstep (M := M) (k := 2) F35 (cLTt.mono (by decide)) (lBk.mono (by decide)) n_len n_range
  have cLSt : StepC M 3 := cal_mk k_cLSt m35 k35 b35
  have k_hPrice := ok_price (M := M) (k := 2) F36 hk (cC.mono (by decide)) 
  have hPrice : PriceC M 3 cl0 := ⟨⟨_, _, _, k_hPrice, m36, b36⟩⟩
  have k_hOut := ok_takeout (M := M) (k := 3) F37 hk (hCord.mono (by decide)) (cIb.mono (by decide)) (hPrice.mono (by decide)) (cT.mono (by decide)) (hKeep.mono (by decide)) n_len
  have hOut : OutC M 4 cl0 := ⟨⟨_, _, _, k_hOut, m37, b37⟩⟩
  have k_hShort := ok_short (M := M) (k := 2) F38 hk (cT.mono (by decide)) n_len ⟨_, i_MOST_TURNS⟩
  have hShort : ShortC M 3 cl0 := ⟨⟨_, _, _, k_hShort, m38, b38⟩⟩
  have k_hPut := ok_putin (M := M) (k := 3) F39 hk (hCord.mono (by decide)) (cIb.mono (by decide)) (cC.mono (by decide)) (hPrice.mono (by decide)) (hShort.mono (by decide)) (hKeep.mono (by decide)) n_len n_isinstance n_str
  have hPut : PutC M 4 cl0 := ⟨⟨_, _, _, k_hPut, m39, b39⟩⟩
  have k_hPaid := ok_paid (M := M) (k := 0) F40 hk 
  have hPaid : PaidC M 1 cl0 := ⟨⟨_, _, _, k_hPaid, m40, b40⟩⟩
  have k_cLLd := ok_lled (M := M) (k := 4) F41 hk (hOut.mono (by decide)) (hPut.mono (by decide)) (hPaid.mono (by decide)) 
  have cLLd : LedC M 5 cl0 := calf_mk k_cLLd m41 k41 b41
  have k_hBack := ok_hback (M := M) (k := 0) F42 hk 
  have hBack : HBackC M 1 cl0 := ⟨⟨_, _, _, k_hBack, m42, b42⟩⟩
  have k_hCords := ok_cords (M := M) (k := 0) F43 hk n_sorted
  have hCords : CordsC M 1 cl0 := ⟨⟨_, _, _, k_hCords, m43, b43⟩⟩
  have k_lC := ok_lcosts (M := M) (k := 0) F44  
  have lC : LCostsC M 1 := cal_mk k_lC m44 k44 b44
  have k_lPr := ok_priced (M := M) (k := 1) F45 (lC.mono (by decide)) (cTn.mono (by decide)) 
  have lPr : PricedC M 2 := cal_mk k_lPr m45 k45 b45
  have k_lB := ok_lbelow (M := M) (k := 0) F46  
  have lB : LBelowC M 1 := cal_mk k_lB m46 k46 b46
  have k_lP := ok_lplus (M := M) (k := 0) F47  
  have lP : LPlusC M 1 := cal_mk k_lP m47 k47 b47
  have k_hLayOn := ok_layon (M := M) (k := 5) F48 hk (hCord.mono (by decide)) (hNeed.mono (by decide)) (hShort.mono (by decide)) (hKeep.mono (by decide)) 
  have hLayOn : LayOnC M 6 cl0 := ⟨⟨_, _, _, k_hLayOn, m48, b48⟩⟩
  exact law_imp (α := Unit) (M := M) (ok_law (M := M) (k := 7) F49 hk (cDs.mono (by decide)) (cD.mono (by decide)) (cO.mono (by decide)) (cF.mono (by decide)) (cR.mono (by decide)) (hMake.mono (by decide)) (hLay.mono (by decide)) (hLeft.mono (by decide)) (hApart.mono (by decide)) (cLgs.mono (by decide)) (cLSt.mono (by decide)) (cLLd.mono (by decide)) (hBack.mono (by decide)) (hCords.mono (by decide)) (lC.mono (by decide)) (lPr.mono (by decide)) (hOut.mono (by decide)) (hPut.mono (by decide)) (lB.mono (by decide)) (lP.mono (by decide)) (hPaid.mono (by decide)) (hLayOn.mono (by decide)) (cLt.mono (by decide)) n_len n_range n_min n_max n_zip n_dict) fun _ _ h => h
end My
open PySem PySem.W PyProof.Rows
set_option maxHeartbeats 0 in
theorem PySem.Challenge.cw_liftcord_k42_whole_paid_and_still_left_holds : PySem.Challenge.rw_liftcord_k42_whole_paid_and_still_left.Holds := by
  w_on; o_law; k_head; (case hw => w_witness2)
  k_fill
  refine L2.walk_of (l := PySem.Challenge.rw_liftcord_k42_whole_paid_and_still_left) (n := 63) (k := 9) (x := "_law_script") (CX := fun _ => L2.CX0) (sp := fun w => fun vs H Q _ => ∃ (a : Addr) (ns : List Int), vs = [.ref a] ∧ L2.SqL _ H a (ns.map L2.V.int) ∧ ns.length ≤ 63 ∧ ∀ H1, Q (.bl true) H1) rfl (by decide) rfl ⟨rfl, by decide, by decide⟩ (fun w h Y => PySem.W.kIn_of Y) ?F (fun _ _ a ns hl _ hS => ⟨a, ns, rfl, hS, hl, fun _ => rfl⟩) (fun _ _ _ _ _ h => h)
  case F =>
    intro w mg fa h KX G hmg
    refine' My.ends KX G hmg ?my_g0 ?my_g1 ?my_gi0 ?my_gi1 ?my_gi2 ?my_gi3 ?my_gi4 ?my_aC ?my_pg ?my_hd ?my_po ?my_sa ?my_mk ?my_kc ?my_nf0 ?my_nf1 ?my_nf2 ?my_a0 ?my_l0 ?my_c0 ?my_k0 ?my_a1 ?my_l1 ?my_c1 ?my_k1 ?my_a2 ?my_l2 ?my_c2 ?my_k2 ?my_a3 ?my_l3 ?my_c3 ?my_k3 ?my_a4 ?my_l4 ?my_c4 ?my_k4 ?my_a5 ?my_l5 ?my_c5 ?my_k5 ?my_a6 ?my_l6 ?my_c6 ?my_k6 ?my_a7 ?my_l7 ?my_c7 ?my_k7 ?my_a8 ?my_l8 ?my_c8 ?my_k8 ?my_a9 ?my_l9 ?my_c9 ?my_k9 ?my_a10 ?my_i10 ?my_l10 ?my_c10 ?my_k10 ?my_a11 ?my_l11 ?my_c11 ?my_k11 ?my_a12 ?my_l12 ?my_c12 ?my_k12 ?my_a13 ?my_l13 ?my_c13 ?my_k13 ?my_a14 ?my_l14 ?my_c14 ?my_k14 ?my_a15 ?my_l15 ?my_c15 ?my_k15 ?my_a16 ?my_l16 ?my_c16 ?my_k16 ?my_a17 ?my_i17 ?my_l17 ?my_c17 ?my_k17 ?my_a18 ?my_i18 ?my_l18 ?my_c18 ?my_k18 ?my_a19 ?my_i19 ?my_l19 ?my_c19 ?my_k19 ?my_a20 ?my_i20 ?my_l20 ?my_c20 ?my_k20 ?my_a21 ?my_l21 ?my_c21 ?my_k21 ?my_a22 ?my_l22 ?my_c22 ?my_k22 ?my_a23 ?my_l23 ?my_c23 ?my_k23 ?my_a24 ?my_l24 ?my_c24 ?my_k24 ?my_a25 ?my_i25 ?my_l25 ?my_c25 ?my_k25 ?my_a26 ?my_i26 ?my_l26 ?my_c26 ?my_k26 ?my_a27 ?my_l27 ?my_c27 ?my_k27 ?my_a28 ?my_l28 ?my_c28 ?my_k28 ?my_a29 ?my_i29 ?my_l29 ?my_c29 ?my_k29 ?my_a30 ?my_l30 ?my_c30 ?my_k30 ?my_a31 ?my_l31 ?my_c31 ?my_k31 ?my_a32 ?my_l32 ?my_c32 ?my_k32 ?my_a33 ?my_l33 ?my_c33 ?my_k33 ?my_a34 ?my_l34 ?my_c34 ?my_k34 ?my_a35 ?my_l35 ?my_c35 ?my_k35 ?my_a36 ?my_i36 ?my_l36 ?my_c36 ?my_k36 ?my_a37 ?my_i37 ?my_l37 ?my_c37 ?my_k37 ?my_a38 ?my_i38 ?my_l38 ?my_c38 ?my_k38 ?my_a39 ?my_i39 ?my_l39 ?my_c39 ?my_k39 ?my_a40 ?my_i40 ?my_l40 ?my_c40 ?my_k40 ?my_a41 ?my_l41 ?my_c41 ?my_k41 ?my_a42 ?my_i42 ?my_l42 ?my_c42 ?my_k42 ?my_a43 ?my_i43 ?my_l43 ?my_c43 ?my_k43 ?my_a44 ?my_l44 ?my_c44 ?my_k44 ?my_a45 ?my_l45 ?my_c45 ?my_k45 ?my_a46 ?my_l46 ?my_c46 ?my_k46 ?my_a47 ?my_l47 ?my_c47 ?my_k47 ?my_a48 ?my_i48 ?my_l48 ?my_c48 ?my_k48 ?my_a49 ?my_l49 ?my_c49 ?my_k49 ?my_z0 ?my_z1 ?my_z2 ?my_z3 ?my_z4 ?my_z5 ?my_z6 ?my_z7 ?my_z8 ?my_z9 ?my_z10 ?my_z11 ?my_z12 ?my_z13
    (case my_g0 => k_is)
    (case my_g1 => k_is)
    (case my_gi0 => k_is)
    (case my_gi1 => k_is)
    (case my_gi2 => k_is)
    (case my_gi3 => k_is)
    (case my_gi4 => k_is)
    (case my_aC => k_is)
    (case my_pg => k_is)
    (case my_hd => k_is)
    (case my_po => k_is)
    (case my_sa => k_is)
    (case my_mk => k_is)
    (case my_kc => k_is)
    (case my_nf0 => k_is)
    (case my_nf1 => k_is)
    (case my_nf2 => k_is)
    (case my_a0 => k_is)
    (case my_l0 => k_is)
    (case my_c0 => k_is)
    (case my_k0 => k_is)
    (case my_a1 => k_is)
    (case my_l1 => k_is)
    (case my_c1 => k_is)
    (case my_k1 => k_is)
    (case my_a2 => k_is)
    (case my_l2 => k_is)
    (case my_c2 => k_is)
    (case my_k2 => k_is)
    (case my_a3 => k_is)
    (case my_l3 => k_is)
    (case my_c3 => k_is)
    (case my_k3 => k_is)
    (case my_a4 => k_is)
    (case my_l4 => k_is)
    (case my_c4 => k_is)
    (case my_k4 => k_is)
    (case my_a5 => k_is)
    (case my_l5 => k_is)
    (case my_c5 => k_is)
    (case my_k5 => k_is)
    (case my_a6 => k_is)
    (case my_l6 => k_is)
    (case my_c6 => k_is)
    (case my_k6 => k_is)
    (case my_a7 => k_is)
    (case my_l7 => k_is)
    (case my_c7 => k_is)
    (case my_k7 => k_is)
    (case my_a8 => k_is)
    (case my_l8 => k_is)
    (case my_c8 => k_is)
    (case my_k8 => k_is)
    (case my_a9 => k_is)
    (case my_l9 => k_is)
    (case my_c9 => k_is)
    (case my_k9 => k_is)
    (case my_a10 => k_is)
    (case my_i10 => k_is)
    (case my_l10 => k_is)
    (case my_c10 => k_is)
    (case my_k10 => k_is)
    (case my_a11 => k_is)
    (case my_l11 => k_is)
    (case my_c11 => k_is)
    (case my_k11 => k_is)
    (case my_a12 => k_is)
    (case my_l12 => k_is)
    (case my_c12 => k_is)
    (case my_k12 => k_is)
    (case my_a13 => k_is)
    (case my_l13 => k_is)
    (case my_c13 => k_is)
    (case my_k13 => k_is)
    (case my_a14 => k_is)
    (case my_l14 => k_is)
    (case my_c14 => k_is)
    (case my_k14 => k_is)
    (case my_a15 => k_is)
    (case my_l15 => k_is)
    (case my_c15 => k_is)
    (case my_k15 => k_is)
    (case my_a16 => k_is)
    (case my_l16 => k_is)
    (case my_c16 => k_is)
    (case my_k16 => k_is)
    (case my_a17 => k_is)
    (case my_i17 => k_is)
    (case my_l17 => k_is)
    (case my_c17 => k_is)
    (case my_k17 => k_is)
    (case my_a18 => k_is)
    (case my_i18 => k_is)
    (case my_l18 => k_is)
    (case my_c18 => k_is)
    (case my_k18 => k_is)
    (case my_a19 => k_is)
    (case my_i19 => k_is)
    (case my_l19 => k_is)
    (case my_c19 => k_is)
    (case my_k19 => k_is)
    (case my_a20 => k_is)
    (case my_i20 => k_is)
    (case my_l20 => k_is)
    (case my_c20 => k_is)
    (case my_k20 => k_is)
    (case my_a21 => k_is)
    (case my_l21 => k_is)
    (case my_c21 => k_is)
    (case my_k21 => k_is)
    (case my_a22 => k_is)
    (case my_l22 => k_is)
    (case my_c22 => k_is)
    (case my_k22 => k_is)
    (case my_a23 => k_is)
    (case my_l23 => k_is)
    (case my_c23 => k_is)
    (case my_k23 => k_is)
    (case my_a24 => k_is)
    (case my_l24 => k_is)
    (case my_c24 => k_is)
    (case my_k24 => k_is)
    (case my_a25 => k_is)
    (case my_i25 => k_is)
    (case my_l25 => k_is)
    (case my_c25 => k_is)
    (case my_k25 => k_is)
    (case my_a26 => k_is)
    (case my_i26 => k_is)
    (case my_l26 => k_is)
    (case my_c26 => k_is)
    (case my_k26 => k_is)
    (case my_a27 => k_is)
    (case my_l27 => k_is)
    (case my_c27 => k_is)
    (case my_k27 => k_is)
    (case my_a28 => k_is)
    (case my_l28 => k_is)
    (case my_c28 => k_is)
    (case my_k28 => k_is)
    (case my_a29 => k_is)
    (case my_i29 => k_is)
    (case my_l29 => k_is)
    (case my_c29 => k_is)
    (case my_k29 => k_is)
    (case my_a30 => k_is)
    (case my_l30 => k_is)
    (case my_c30 => k_is)
    (case my_k30 => k_is)
    (case my_a31 => k_is)
    (case my_l31 => k_is)
    (case my_c31 => k_is)
    (case my_k31 => k_is)
    (case my_a32 => k_is)
    (case my_l32 => k_is)
    (case my_c32 => k_is)
    (case my_k32 => k_is)
    (case my_a33 => k_is)
    (case my_l33 => k_is)
    (case my_c33 => k_is)
    (case my_k33 => k_is)
    (case my_a34 => k_is)
    (case my_l34 => k_is)
    (case my_c34 => k_is)
    (case my_k34 => k_is)
    (case my_a35 => k_is)
    (case my_l35 => k_is)
    (case my_c35 => k_is)
    (case my_k35 => k_is)
    (case my_a36 => k_is)
    (case my_i36 => k_is)
    (case my_l36 => k_is)
    (case my_c36 => k_is)
    (case my_k36 => k_is)
    (case my_a37 => k_is)
    (case my_i37 => k_is)
    (case my_l37 => k_is)
    (case my_c37 => k_is)
    (case my_k37 => k_is)
    (case my_a38 => k_is)
    (case my_i38 => k_is)
    (case my_l38 => k_is)
    (case my_c38 => k_is)
    (case my_k38 => k_is)
    (case my_a39 => k_is)
    (case my_i39 => k_is)
    (case my_l39 => k_is)
    (case my_c39 => k_is)
    (case my_k39 => k_is)
    (case my_a40 => k_is)
    (case my_i40 => k_is)
    (case my_l40 => k_is)
    (case my_c40 => k_is)
    (case my_k40 => k_is)
    (case my_a41 => k_is)
    (case my_l41 => k_is)
    (case my_c41 => k_is)
    (case my_k41 => k_is)
    (case my_a42 => k_is)
    (case my_i42 => k_is)
    (case my_l42 => k_is)
    (case my_c42 => k_is)
    (case my_k42 => k_is)
    (case my_a43 => k_is)
    (case my_i43 => k_is)
    (case my_l43 => k_is)
    (case my_c43 => k_is)
    (case my_k43 => k_is)
    (case my_a44 => k_is)
    (case my_l44 => k_is)
    (case my_c44 => k_is)
    (case my_k44 => k_is)
    (case my_a45 => k_is)
    (case my_l45 => k_is)
    (case my_c45 => k_is)
    (case my_k45 => k_is)
    (case my_a46 => k_is)
    (case my_l46 => k_is)
    (case my_c46 => k_is)
    (case my_k46 => k_is)
    (case my_a47 => k_is)
    (case my_l47 => k_is)
    (case my_c47 => k_is)
    (case my_k47 => k_is)
    (case my_a48 => k_is)
    (case my_i48 => k_is)
    (case my_l48 => k_is)
    (case my_c48 => k_is)
    (case my_k48 => k_is)
    (case my_a49 => k_is)
    (case my_l49 => k_is)
    (case my_c49 => k_is)
    (case my_k49 => k_is)
    (case my_z0 => k_is)
    (case my_z1 => k_is)
    (case my_z2 => k_is)
    (case my_z3 => k_is)
    (case my_z4 => k_is)
    (case my_z5 => k_is)
    (case my_z6 => k_is)
    (case my_z7 => k_is)
    (case my_z8 => k_is)
    (case my_z9 => k_is)
    (case my_z10 => k_is)
    (case my_z11 => k_is)
    (case my_z12 => k_is)
    (case my_z13 => k_is)
