import PyProof.Rows.All
import Wide.All
import OpenK.AllK
import Wide.FinOn
import HandS.ForMost
import HandS.Star
import HandS.IsInst
import HandS.Conv
import HandS.Wide
import HandS.WideBits
import HandS.TryOnly
import HandS.Zip
import HandS.Sort
import HandS.Deep
import HandS.Style
import HandS.Gcd
import PyProof.Rows.RuleB_pow
import KE.SortData
import PyProof.ReprRoads
import HandS.Walk
import KE.KDictDisplayH
import KE.KDictPairs
import HandS.RaiseMore
import PyProof.RowDictHeap
import HandS.Ends
import HandS.Defaults
import HandS.HeadEnd
import HandS.Head0
import HandS.Head1
import HandS.Head2
import HandS.HeadHook1
import HandS.HeadHook2
import PySem.Challenge.RW_straightcuts_k75_whole_moves
set_option Elab.async false
set_option autoImplicit false
set_option linter.all false
set_option maxRecDepth 100000
set_option maxHeartbeats 2000000
/-! Bv1: by-value judgements over the hand layer: what an expression gives is told as data (PyData), owned lists apart, no heap in sight. -/
namespace Bv
open PySem PySem.Spec PyProof.Rows L2

/-! ### data -/
mutual
inductive Rp (K : PySem.W.Frag) (B : Hp) : PyData → V → Prop
  | non : Rp K B .none .non
  | bl (b : Bool) : Rp K B (.bool b) (.bl b)
  | int (i : Int) : Rp K B (.int i) (.int i)
  | str (x : Str) : Rp K B (.str x) (.str x)
  | lst {a xs ds} (h : B a = some (.lst xs)) (g : RpAll K B ds xs) : Rp K B (.list ds) (.ref a)
  | tup {a xs ds} (h : B a = some (.tup xs)) (g : RpAll K B ds xs) : Rp K B (.tuple ds) (.ref a)
  | dic {a} (h : B a = some (.dK [])) : Rp K B (.dict []) (.ref a)
inductive RpAll (K : PySem.W.Frag) (B : Hp) : List PyData → List V → Prop
  | nil : RpAll K B [] []
  | cons {d v ds vs} (h : Rp K B d v) (t : RpAll K B ds vs) : RpAll K B (d :: ds) (v :: vs)
end

theorem same_l {K : PySem.W.Frag} {H H' : Hp} {a : Addr} {xs : List V} (e : Same H H') (h : SqL K H a xs) : SqL K H' a xs := e.seq h
theorem same_t {K : PySem.W.Frag} {H H' : Hp} {a : Addr} {xs : List V} (e : Same H H') (h : SqT K H a xs) : SqT K H' a xs := by
  rcases h with (h | ⟨o, h⟩) | h
  · exact .inl (.inl (e _ _ h))
  · exact .inl (.inr ⟨o, e _ _ h⟩)
  · exact .inr h
section
variable {K : PySem.W.Frag} {B B' : Hp}
mutual
theorem Rp.mono (e : Same B B') : ∀ (d : PyData) (v : V), Rp K B d v → Rp K B' d v
  | .none, _, h => by cases h; exact .non
  | .bool b, _, h => by cases h; exact .bl b
  | .int i, _, h => by cases h; exact .int i
  | .str x, _, h => by cases h; exact .str x
  | .list ds, _, h => by
    cases h with
    | lst h g => exact .lst (e _ _ h) (RpAll.mono e ds _ g)
  | .tuple ds, _, h => by
    cases h with
    | tup h g => exact .tup (e _ _ h) (RpAll.mono e ds _ g)
  | .dict [], _, h => by
    cases h with
    | dic h => exact .dic (e _ _ h)
  | .dict (_ :: _), _, h => by cases h
theorem RpAll.mono (e : Same B B') : ∀ (ds : List PyData) (vs : List V), RpAll K B ds vs → RpAll K B' ds vs
  | [], _, h => by cases h; exact .nil
  | d :: ds, _, h => by
    cases h with
    | cons h t => exact .cons (Rp.mono e d _ h) (RpAll.mono e ds _ t)
end
theorem Rp.up {d : PyData} {v : V} (h : Rp K B d v) (e : Same B B') : Rp K B' d v := Rp.mono e d v h
theorem RpAll.up {ds : List PyData} {vs : List V} (h : RpAll K B ds vs) (e : Same B B') : RpAll K B' ds vs := RpAll.mono e ds vs h

theorem RpAll.len : ∀ {ds : List PyData} {vs : List V}, RpAll K B ds vs → ds.length = vs.length
  | [], _, h => by cases h; rfl
  | _ :: _, _, h => by
    cases h with
    | cons h t =>
      show _ + 1 = _ + 1
      rw [RpAll.len t]
theorem RpAll.get : ∀ {ds : List PyData} {vs : List V} {i : Nat} {d : PyData}, RpAll K B ds vs → ds[i]? = some d → ∃ v, vs[i]? = some v ∧ Rp K B d v
  | [], _, _, _, h, e => by simp at e
  | _ :: _, _, 0, _, h, e => by
    cases h with
    | cons h t =>
      have e' := Option.some.inj e
      subst e'
      exact ⟨_, rfl, h⟩
  | _ :: _, _, i + 1, _, h, e => by
    cases h with
    | cons h t =>
      obtain ⟨v, h1, h2⟩ := RpAll.get (i := i) t (by simpa using e)
      exact ⟨v, by simpa using h1, h2⟩
theorem RpAll.got : ∀ {ds : List PyData} {vs : List V} {i : Nat} {v : V}, RpAll K B ds vs → vs[i]? = some v → ∃ d, ds[i]? = some d ∧ Rp K B d v
  | [], _, _, _, h, e => by cases h; simp at e
  | _ :: _, _, 0, _, h, e => by
    cases h with
    | cons h t =>
      have e' := Option.some.inj e
      subst e'
      exact ⟨_, rfl, h⟩
  | _ :: _, _, i + 1, _, h, e => by
    cases h with
    | cons h t =>
      obtain ⟨v, h1, h2⟩ := RpAll.got (i := i) t (by simpa using e)
      exact ⟨v, by simpa using h1, h2⟩
theorem RpAll.app : ∀ {ds es : List PyData} {vs ws : List V}, RpAll K B ds vs → RpAll K B es ws → RpAll K B (ds ++ es) (vs ++ ws)
  | [], _, _, _, h, g => by cases h; exact g
  | _ :: _, _, _, _, h, g => by
    cases h with
    | cons h t => exact .cons h (RpAll.app t g)
theorem RpAll.take : ∀ {ds : List PyData} {vs : List V} (n : Nat), RpAll K B ds vs → RpAll K B (ds.take n) (vs.take n)
  | [], _, n, h => by cases h; simpa using RpAll.nil
  | _ :: _, _, 0, h => .nil
  | _ :: _, _, n + 1, h => by
    cases h with
    | cons h t => exact .cons h (RpAll.take n t)
theorem RpAll.drop : ∀ {ds : List PyData} {vs : List V} (n : Nat), RpAll K B ds vs → RpAll K B (ds.drop n) (vs.drop n)
  | [], _, n, h => by cases h; simpa using RpAll.nil
  | _ :: _, _, 0, h => h
  | _ :: _, _, n + 1, h => by
    cases h with
    | cons h t => exact RpAll.drop n t
theorem RpAll.rev {ds : List PyData} {vs : List V} (h : RpAll K B ds vs) : RpAll K B ds.reverse vs.reverse := by
  induction ds generalizing vs with
  | nil => cases h; exact .nil
  | cons d ds ih =>
    cases h with
    | cons h t =>
      rw [List.reverse_cons, List.reverse_cons]
      exact (ih t).app (.cons h .nil)
theorem RpAll.setAt : ∀ {ds : List PyData} {vs : List V} (i : Nat) {d : PyData} {v : V}, RpAll K B ds vs → Rp K B d v → RpAll K B (ds.set i d) (vs.set i v)
  | [], _, i, _, _, h, _ => by cases h; simpa using RpAll.nil
  | _ :: _, _, 0, _, _, h, g => by
    cases h with
    | cons h t => exact .cons g t
  | _ :: _, _, i + 1, _, _, h, g => by
    cases h with
    | cons h t => exact .cons h (RpAll.setAt i t g)
theorem RpAll.erase : ∀ {ds : List PyData} {vs : List V} (i : Nat), RpAll K B ds vs → RpAll K B (ds.eraseIdx i) (vs.eraseIdx i)
  | [], _, i, h => by cases h; simpa using RpAll.nil
  | _ :: _, _, 0, h => by
    cases h with
    | cons h t => exact t
  | _ :: _, _, i + 1, h => by
    cases h with
    | cons h t => exact .cons h (RpAll.erase i t)
theorem RpAll.dropLast : ∀ {ds : List PyData} {vs : List V}, RpAll K B ds vs → RpAll K B ds.dropLast vs.dropLast := fun {ds vs} h => by
  rw [List.dropLast_eq_take, List.dropLast_eq_take, h.len]
  exact h.take _
theorem RpAll.rep {ds : List PyData} {vs : List V} (h : RpAll K B ds vs) : ∀ n : Nat, RpAll K B (List.replicate n ds).flatten (List.replicate n vs).flatten
  | 0 => .nil
  | n + 1 => by
    rw [List.replicate_succ, List.replicate_succ, List.flatten_cons, List.flatten_cons]
    exact h.app (RpAll.rep h n)
theorem RpAll.ints : ∀ {ns : List Int} {vs : List V}, RpAll K B (ns.map PyData.int) vs → vs = ns.map V.int
  | [], _, h => by cases h; rfl
  | n :: ns, _, h => by
    cases h with
    | cons h t =>
      cases h
      rw [List.map_cons, RpAll.ints t]
theorem RpAll.of_ints : ∀ ns : List Int, RpAll K B (ns.map PyData.int) (ns.map V.int)
  | [] => .nil
  | n :: ns => .cons (.int n) (RpAll.of_ints ns)
theorem RpAll.bools : ∀ {ns : List Bool} {vs : List V}, RpAll K B (ns.map PyData.bool) vs → vs = ns.map V.bl
  | [], _, h => by cases h; rfl
  | n :: ns, _, h => by
    cases h with
    | cons h t =>
      cases h
      rw [List.map_cons, RpAll.bools t]
end

/-! ### environments -/
inductive Ent where
  | no
  | dat (d : PyData)
  | own (ds : List PyData)
  | dic (kvs : List (List Key × PyData))
  | scr (ns : List Int)
inductive Res where
  | dat (d : PyData)
  | new (ds : List PyData)
  | newD (kvs : List (List Key × PyData))
  | peek (i : Nat)
  | pairP (i : Nat) (b : List PyData)
  | pair (a b : List PyData)
abbrev En := List Ent
def RpKv (K : PySem.W.Frag) (B : Hp) : List (List Key × PyData) → List (List Key × V) → Prop
  | [], ys => ys = []
  | p :: ps, ys => ∃ v r, ys = (p.1, v) :: r ∧ Rp K B p.2 v ∧ RpKv K B ps r
theorem RpKv.up {K : PySem.W.Frag} {B B' : Hp} (e : Same B B') : ∀ {ks : List (List Key × PyData)} {ys : List (List Key × V)}, RpKv K B ks ys → RpKv K B' ks ys
  | [], _, h => h
  | _ :: _, _, ⟨v, r, e1, h, t⟩ => ⟨v, r, e1, h.up e, RpKv.up e t⟩
def EntR (K : PySem.W.Frag) (B H : Hp) (e : Ent) (ov : Option V) : Prop :=
  match e with
  | .no => True
  | .dat d => ∃ v, ov = some v ∧ Rp K B d v
  | .own ds => ∃ p xs, ov = some (.ref p) ∧ B p = none ∧ H p = some (.lst xs) ∧ RpAll K B ds xs
  | .dic kvs => ∃ p ys, ov = some (.ref p) ∧ B p = none ∧ H p = some (.dT ys) ∧ RpKv K B kvs ys
  | .scr ns => ∃ p, ov = some (.ref p) ∧ SqL K B p (ns.map V.int)
def isOwn : Option Ent → Prop
  | some (.own _) => True
  | some (.dic _) => True
  | _ => False
def ownAt (Γ : En) (σ : L2.St) (i : Nat) (a : Addr) : Prop := σ[i]? = some (some (.ref a)) ∧ isOwn Γ[i]?
def Owned (Γ : En) (σ : L2.St) (a : Addr) : Prop := ∃ i, ownAt Γ σ i a
structure Stt (K : PySem.W.Frag) (B H : Hp) (Γ : En) (σ : L2.St) : Prop where
  len : Γ.length = σ.length
  sub : Same B H
  ent : ∀ (i : Nat) (e : Ent), Γ[i]? = some e → ∃ ov, σ[i]? = some ov ∧ EntR K B H e ov
  sep : ∀ (i j : Nat) (a : Addr), ownAt Γ σ i a → ownAt Γ σ j a → i = j
structure Step (W : Addr → Prop) (B H B' H' : Hp) : Prop where
  ex : Same B B'
  sub : Same B' H'
  keep : ∀ a o, ¬ W a → H a = some o → H' a = some o
  dom : ∀ a, H' a = none → H a = none
  new : ∀ a, ¬ W a → H a ≠ none → B a = none → B' a = none
theorem Step.refl {W : Addr → Prop} {B H : Hp} (s : Same B H) : Step W B H B H := ⟨fun _ _ h => h, s, fun _ _ _ h => h, fun _ h => h, fun _ _ _ h => h⟩
theorem Step.trans {W W1 : Addr → Prop} {B H B1 H1 B2 H2 : Hp} (s : Step W B H B1 H1) (t : Step W1 B1 H1 B2 H2) (w : ∀ a, W1 a → W a ∨ H a = none) : Step W B H B2 H2 where
  ex := s.ex.trans t.ex
  sub := t.sub
  keep := fun a o n h => t.keep a o (fun z => (w a z).elim n fun q => by rw [h] at q; cases q) (s.keep a o n h)
  dom := fun a h => s.dom a (t.dom a h)
  new := fun a n h b => t.new a (fun z => (w a z).elim n h) (fun z => h (s.dom a z)) (s.new a n h b)
/-- nothing known changed; what is data grew by new things alone -/
structure Pur (B H B' H' : Hp) : Prop where
  heap : Same H H'
  ex : Same B B'
  sub : Same B' H'
  new : ∀ a, H a ≠ none → B a = none → B' a = none
theorem Pur.refl {B H : Hp} (s : Same B H) : Pur B H B H := ⟨fun _ _ h => h, fun _ _ h => h, s, fun _ _ h => h⟩
theorem Pur.trans {B H B1 H1 B2 H2 : Hp} (s : Pur B H B1 H1) (t : Pur B1 H1 B2 H2) : Pur B H B2 H2 where
  heap := s.heap.trans t.heap
  ex := s.ex.trans t.ex
  sub := t.sub
  new := fun a h b => t.new a (fun z => h (s.heap.free z)) (s.new a h b)
theorem Pur.step {W : Addr → Prop} {B H B' H' : Hp} (s : Pur B H B' H') : Step W B H B' H' := ⟨s.ex, s.sub, fun a o _ h => s.heap a o h, fun _ h => s.heap.free h, fun a _ h b => s.new a h b⟩
/-- what is data may stay as it was -/
theorem Pur.back {B H B' H' : Hp} (s : Pur B H B' H') : Pur B H B H' := ⟨s.heap, fun _ _ h => h, s.ex.trans s.sub, fun _ _ h => h⟩
theorem Pur.grown {B H H' : Hp} (s : Same B H) (e : Same H H') : Pur B H B H' := ⟨e, fun _ _ h => h, s.trans e, fun _ _ h => h⟩
theorem same_upd {H : Hp} {p : Addr} {o : HO} (n : H p = none) : Same H (upd H p o) := fun b z h => by rw [upd_ne (ne_of_none h n)]; exact h
theorem same_upd2 {B H : Hp} {p : Addr} {o : HO} (s : Same B H) (h : H p = some o) : Same (upd B p o) H := fun b z g => by
  by_cases hb : b = p
  · subst hb
    rw [upd_same] at g
    rw [h]
    exact g
  · rw [upd_ne hb] at g
    exact s _ _ g
/-- a new object, data from now on -/
theorem Pur.laid {B H : Hp} {p : Addr} {o : HO} (s : Same B H) (n : H p = none) : Pur B H (upd B p o) (upd H p o) := by
  have hB : B p = none := s.free n
  refine ⟨same_upd n, same_upd hB, same_upd2 (s.trans (same_upd n)) upd_same, fun a h1 h2 => ?_⟩
  have : a ≠ p := fun z => by subst z; exact h1 n
  rw [upd_ne this]
  exact h2
theorem Stt.pur {K : PySem.W.Frag} {B H B' H' : Hp} {Γ : En} {σ : L2.St} (s : Stt K B H Γ σ) (p : Pur B H B' H') : Stt K B' H' Γ σ := by
  refine ⟨s.len, p.sub, fun i t hi => ?_, s.sep⟩
  obtain ⟨ov, h1, h2⟩ := s.ent i t hi
  refine ⟨ov, h1, ?_⟩
  cases t with
  | no => exact h2
  | dat d =>
    obtain ⟨v, e1, g⟩ := h2
    exact ⟨v, e1, g.up p.ex⟩
  | own ds =>
    obtain ⟨q, xs, q1, q2, q3, q4⟩ := h2
    exact ⟨q, xs, q1, p.new q (by rw [q3]; exact fun z => nomatch z) q2, p.heap _ _ q3, q4.up p.ex⟩
  | dic ds =>
    obtain ⟨q, xs, q1, q2, q3, q4⟩ := h2
    exact ⟨q, xs, q1, p.new q (by rw [q3]; exact fun z => nomatch z) q2, p.heap _ _ q3, q4.up p.ex⟩
  | scr ns =>
    obtain ⟨q, q1, q2⟩ := h2
    exact ⟨q, q1, same_l p.ex q2⟩
structure Out (K : PySem.W.Frag) (σ : L2.St) (Γ : En) (B H : Hp) (Γ' : En) (B' H' : Hp) : Prop where
  step : Step (Owned Γ σ) B H B' H'
  own : ∀ i a, ownAt Γ' σ i a → ownAt Γ σ i a
  st : Stt K B' H' Γ' σ
theorem Out.refl {K : PySem.W.Frag} {σ : L2.St} {Γ : En} {B H : Hp} (s : Stt K B H Γ σ) : Out K σ Γ B H Γ B H := ⟨.refl s.sub, fun _ _ h => h, s⟩
theorem Out.trans {K : PySem.W.Frag} {σ : L2.St} {Γ Γ1 Γ2 : En} {B H B1 H1 B2 H2 : Hp} (s : Out K σ Γ B H Γ1 B1 H1) (t : Out K σ Γ1 B1 H1 Γ2 B2 H2) : Out K σ Γ B H Γ2 B2 H2 :=
  ⟨s.step.trans t.step fun _ ⟨i, h⟩ => .inl ⟨i, s.own i _ h⟩, fun i a h => s.own i a (t.own i a h), t.st⟩
/-- what stands at an owned place is there -/
theorem Stt.there {K : PySem.W.Frag} {B H : Hp} {Γ : En} {σ : L2.St} {a : Addr} (s : Stt K B H Γ σ) (h : Owned Γ σ a) : H a ≠ none ∧ B a = none := by
  obtain ⟨i, h1, h2⟩ := h
  cases e : Γ[i]? with
  | none => rw [e] at h2; exact h2.elim
  | some t =>
    obtain ⟨ov, g1, g2⟩ := s.ent i t e
    rw [h1] at g1
    cases g1
    rw [e] at h2
    cases t with
    | no => exact h2.elim
    | dat d => exact h2.elim
    | own ds =>
      obtain ⟨p, xs, q1, q2, q3, _⟩ := g2
      cases q1
      exact ⟨by rw [q3]; exact (fun z => nomatch z), q2⟩
    | dic kvs =>
      obtain ⟨p, xs, q1, q2, q3, _⟩ := g2
      cases q1
      exact ⟨by rw [q3]; exact (fun z => nomatch z), q2⟩
    | scr ns => exact h2.elim

def ResR (K : PySem.W.Frag) (H0 B H : Hp) (Γ : En) (σ : L2.St) (r : Res) (v : V) : Prop :=
  match r with
  | .dat d => Rp K B d v
  | .new ds => ∃ p xs, v = .ref p ∧ H0 p = none ∧ B p = none ∧ H p = some (.lst xs) ∧ RpAll K B ds xs
  | .newD kvs => ∃ p ys, v = .ref p ∧ H0 p = none ∧ B p = none ∧ H p = some (.dT ys) ∧ RpKv K B kvs ys
  | .peek i => σ[i]? = some (some v) ∧ isOwn Γ[i]?
  | .pairP i b => ∃ t p q ys, v = .ref t ∧ H0 t = none ∧ H t = some (.tup [.ref p, .ref q]) ∧ σ[i]? = some (some (.ref p)) ∧ isOwn Γ[i]? ∧ p ≠ q ∧ H0 q = none ∧ B q = none ∧ H q = some (.lst ys) ∧ RpAll K B b ys
  | .pair a b => ∃ t p q xs ys, v = .ref t ∧ H0 t = none ∧ H t = some (.tup [.ref p, .ref q]) ∧ p ≠ q ∧ (H0 p = none ∧ B p = none ∧ H p = some (.lst xs) ∧ RpAll K B a xs) ∧ H0 q = none ∧ B q = none ∧ H q = some (.lst ys) ∧ RpAll K B b ys
/-- a result lives on -/
theorem ResR.on {K : PySem.W.Frag} {H0 B H B' H' : Hp} {Γ : En} {σ : L2.St} {r : Res} {v : V} (h : ResR K H0 B H Γ σ r v) (o : Pur B H B' H') : ResR K H0 B' H' Γ σ r v := by
  cases r with
  | dat d => exact Rp.up h o.ex
  | new ds =>
    obtain ⟨p, xs, e, h0, hb, hh, g⟩ := h
    exact ⟨p, xs, e, h0, o.new p (by rw [hh]; exact fun z => nomatch z) hb, o.heap p _ hh, g.up o.ex⟩
  | newD ds =>
    obtain ⟨p, xs, e, h0, hb, hh, g⟩ := h
    exact ⟨p, xs, e, h0, o.new p (by rw [hh]; exact fun z => nomatch z) hb, o.heap p _ hh, g.up o.ex⟩
  | peek i => exact h
  | pairP i b =>
    obtain ⟨t, p, q, ys, e, t0, ht, hs, hi, n, h0, hb, hh, g⟩ := h
    exact ⟨t, p, q, ys, e, t0, o.heap t _ ht, hs, hi, n, h0, o.new q (by rw [hh]; exact fun z => nomatch z) hb, o.heap q _ hh, g.up o.ex⟩
  | pair a b =>
    obtain ⟨t, p, q, xs, ys, e, t0, ht, n, ⟨p0, pb, ph, pg⟩, h0, hb, hh, g⟩ := h
    exact ⟨t, p, q, xs, ys, e, t0, o.heap t _ ht, n, ⟨p0, o.new p (by rw [ph]; exact fun z => nomatch z) pb, o.heap p _ ph, pg.up o.ex⟩, h0, o.new q (by rw [hh]; exact fun z => nomatch z) hb, o.heap q _ hh, g.up o.ex⟩
theorem ResR.back {K : PySem.W.Frag} {H0 H1 B H : Hp} {Γ : En} {σ : L2.St} {r : Res} {v : V} (h : ResR K H1 B H Γ σ r v) (hd : ∀ a, H1 a = none → H0 a = none) : ResR K H0 B H Γ σ r v := by
  cases r with
  | dat d => exact h
  | new ds =>
    obtain ⟨p, xs, e, h0, g⟩ := h
    exact ⟨p, xs, e, hd p h0, g⟩
  | newD ds =>
    obtain ⟨p, xs, e, h0, g⟩ := h
    exact ⟨p, xs, e, hd p h0, g⟩
  | peek i => exact h
  | pairP i b =>
    obtain ⟨t, p, q, ys, e, t0, ht, hs, hi, n, h0, g⟩ := h
    exact ⟨t, p, q, ys, e, hd t t0, ht, hs, hi, n, hd q h0, g⟩
  | pair a b =>
    obtain ⟨t, p, q, xs, ys, e, t0, ht, n, ⟨p0, pg⟩, h0, g⟩ := h
    exact ⟨t, p, q, xs, ys, e, hd t t0, ht, n, ⟨hd p p0, pg⟩, hd q h0, g⟩

/-! ### the readings that say all -/
def tCan (X : Cx) (e : Expr) : TE := fun σ H Q => ∀ pins s, Inv X pins σ H s → wpAny (model X.prog X.w) X.A (eval e X.env) (EP X pins σ Q) X.xe s
def tCanT (X : Cx) (e : Expr) : TT := fun σ H Q => ∀ pins s, Inv X pins σ H s → wpAny (model X.prog X.w) X.A (isTrue e X.env (eval e X.env)) (TP X pins σ Q) X.xe s
def tCanW (X : Cx) (e : Expr) : TT := fun σ H Q => ∀ whole pins s, Inv X pins σ H s → wpAny (model X.prog X.w) X.A (isTrue e X.env whole) (TP X pins σ Q) X.xe s
def tCanA (X : Cx) (es : List Expr) : TA := fun σ H Q => ∀ pos pins s, Inv X pins σ H s → wpAny (model X.prog X.w) X.A (spliced (backTo pos (starEach es X.env))) (AP X pins σ Q) X.xe s
def tCanSs (X : Cx) (ss : List Stmt) : TS := fun D σ H => ∀ pins s, Inv X pins σ H s → wpAny (model X.prog X.w) X.A (execs ss X.env) (SP X pins D) X.xe s
section
variable {X : Cx} {e : Expr}
theorem pe_can : PE X e (tCan X e) := ⟨fun pins s _ _ _ I h => h pins s I⟩
theorem pt_can : PT X e (tCanT X e) := ⟨fun pins s _ _ _ I h => h pins s I⟩
theorem pw_can : PW X e (tCanW X e) := ⟨fun wh pins s _ _ _ I h => h wh pins s I⟩
theorem pa_can {es : List Expr} : PA X es (tCanA X es) := ⟨fun pos pins s _ _ _ I h => h pos pins s I⟩
theorem pss_can {ss : List Stmt} : PSs X ss (tCanSs X ss) := ⟨fun pins s _ _ _ I h => h pins s I⟩
theorem can_of {t : TE} {σ : L2.St} {H : Hp} {Q : VK} (h : PE X e t) (q : t σ H Q) : tCan X e σ H Q := fun pins s I => h.run pins s σ H Q I q
theorem canT_of {t : TT} {σ : L2.St} {H : Hp} {Q : Bool → Hp → Prop} (h : PT X e t) (q : t σ H Q) : tCanT X e σ H Q := fun pins s I => h.run pins s σ H Q I q
theorem canW_of {t : TT} {σ : L2.St} {H : Hp} {Q : Bool → Hp → Prop} (h : PW X e t) (q : t σ H Q) : tCanW X e σ H Q := fun wh pins s I => h.run wh pins s σ H Q I q
theorem canA_of {es : List Expr} {t : TA} {σ : L2.St} {H : Hp} {Q : List V → Hp → Prop} (h : PA X es t) (q : t σ H Q) : tCanA X es σ H Q := fun pos pins s I => h.run pos pins s σ H Q I q
theorem canSs_of {ss : List Stmt} {t : TS} {σ : L2.St} {H : Hp} {D : Ends} (h : PSs X ss t) (q : t D σ H) : tCanSs X ss D σ H := fun pins s I => h.run pins s σ H D I q
end

/-! ### the judgements -/
/-- k: what is to be shown of a wish Q so that the outcome r meets it -/
def Yl (K : PySem.W.Frag) (σ : L2.St) (Γ : En) (B H : Hp) (r : Res) (k : VK → Prop) : Prop :=
  ∀ Q : VK, (∀ v B' H', Pur B H B' H' → ResR K H B' H' Γ σ r v → Q v H') → k Q
/-- e gives r, the environment as it was -/
def BR (X : Cx) (e : Expr) (Γ : En) (r : Res) : Prop := ∀ σ B H, Stt X.K B H Γ σ → Yl X.K σ Γ B H r fun Q => tCan X e σ H Q
abbrev BV (X : Cx) (e : Expr) (Γ : En) (d : PyData) : Prop := BR X e Γ (.dat d)
/-- the test e has the answer b -/
def BT (X : Cx) (e : Expr) (Γ : En) (b : Bool) : Prop := ∀ σ B H, Stt X.K B H Γ σ → ∀ Q : Bool → Hp → Prop, (∀ H', Same H H' → Q b H') → tCanT X e σ H Q
def BW (X : Cx) (e : Expr) (Γ : En) (b : Bool) : Prop := ∀ σ B H, Stt X.K B H Γ σ → ∀ Q : Bool → Hp → Prop, (∀ H', Same H H' → Q b H') → tCanW X e σ H Q
/-- e, whatever it does: Φ of what it gives and of the environment behind it -/
def EV (X : Cx) (e : Expr) (Γ : En) (Φ : Res → En → Prop) : Prop := ∀ σ B H, Stt X.K B H Γ σ → ∀ Q : VK, (∀ v r Γ' B' H', Out X.K σ Γ B H Γ' B' H' → ResR X.K H B' H' Γ' σ r v → Φ r Γ' → Q v H') → tCan X e σ H Q
/-- the arguments -/
def BA (X : Cx) (es : List Expr) (Γ : En) (ds : List PyData) : Prop := ∀ σ B H, Stt X.K B H Γ σ → ∀ Q : List V → Hp → Prop, (∀ vs B' H', Pur B H B' H' → RpAll X.K B' ds vs → Q vs H') → tCanA X es σ H Q

section
variable {X : Cx} {Γ : En} {e a b : Expr} {r r1 r2 : Res}
theorem Pur.out {K : PySem.W.Frag} {σ : L2.St} {B H B' H' : Hp} (p : Pur B H B' H') (s : Stt K B H Γ σ) : Out K σ Γ B H Γ B' H' := ⟨p.step, fun _ _ h => h, s.pur p⟩
/-- a fresh list becomes data -/
theorem Yl.give {K : PySem.W.Frag} {σ : L2.St} {B H : Hp} {ds : List PyData} {k : VK → Prop} (h : Yl K σ Γ B H (.new ds) k) : Yl K σ Γ B H (.dat (.list ds)) k := by
  intro Q q
  refine h Q fun v B' H' o ⟨p, xs, e, h0, hb, hh, g⟩ => ?_
  subst e
  refine q (.ref p) (upd B' p (.lst xs)) H' ⟨o.heap, o.ex.trans (same_upd hb), same_upd2 o.sub hh, fun a h1 h2 => ?_⟩ (.lst upd_same (g.up (same_upd hb)))
  have : a ≠ p := fun z => by subst z; exact h1 h0
  rw [upd_ne this]
  exact o.new a h1 h2
theorem br_give {ds : List PyData} (h : BR X e Γ (.new ds)) : BV X e Γ (.list ds) := fun σ B H s => (h σ B H s).give
theorem BR.is (h : BR X e Γ r1) (q : r1 = r2) : BR X e Γ r2 := q ▸ h
theorem BR.ev {Φ : Res → En → Prop} (h : BR X e Γ r) (q : Φ r Γ) : EV X e Γ Φ := fun σ B H s Q k => h σ B H s Q fun v B' H' o g => k v r Γ B' H' (o.out s) g q
theorem EV.mono {Φ Ψ : Res → En → Prop} (h : EV X e Γ Φ) (q : ∀ r Γ', Φ r Γ' → Ψ r Γ') : EV X e Γ Ψ := fun σ B H s Q k => h σ B H s Q fun v r Γ' B' H' o g p => k v r Γ' B' H' o g (q r Γ' p)
theorem BT.is {c d : Bool} (h : BT X e Γ c) (q : c = d) : BT X e Γ d := q ▸ h

/-! #### names, constants -/
theorem bv_var {i : Nat} {x : Str} {pos : Pos} {d : PyData} (hN : X.N[i]? = some x) (hv : Vis X.env.scope x) (h : Γ[i]? = some (.dat d)) (hd : (x == ("__debug__" : Str)) = false := by decide) (hcd : (x == ("__classdict__" : Str)) = false := by decide) : BV X (.Name x pos) Γ d := by
  intro σ B H s Q q
  obtain ⟨ov, h1, v, h2, g⟩ := s.ent i _ h
  refine can_of (pe_var hN hv hd hcd) ⟨v, by rw [h1, h2], q v B H (.refl s.sub) g⟩
theorem br_peek {i : Nat} {x : Str} {pos : Pos} {ds : List PyData} (hN : X.N[i]? = some x) (hv : Vis X.env.scope x) (h : Γ[i]? = some (.own ds)) (hd : (x == ("__debug__" : Str)) = false := by decide) (hcd : (x == ("__classdict__" : Str)) = false := by decide) : BR X (.Name x pos) Γ (.peek i) := by
  intro σ B H s Q q
  obtain ⟨ov, h1, p, xs, h2, _⟩ := s.ent i _ h
  refine can_of (pe_var hN hv hd hcd) ⟨.ref p, by rw [h1, h2], q (.ref p) B H (.refl s.sub) ⟨by rw [h1, h2], by rw [h]; trivial⟩⟩
theorem br_peekD {i : Nat} {x : Str} {pos : Pos} {ds : List (List Key × PyData)} (hN : X.N[i]? = some x) (hv : Vis X.env.scope x) (h : Γ[i]? = some (.dic ds)) (hd : (x == ("__debug__" : Str)) = false := by decide) (hcd : (x == ("__classdict__" : Str)) = false := by decide) : BR X (.Name x pos) Γ (.peek i) := by
  intro σ B H s Q q
  obtain ⟨ov, h1, p, xs, h2, _⟩ := s.ent i _ h
  refine can_of (pe_var hN hv hd hcd) ⟨.ref p, by rw [h1, h2], q (.ref p) B H (.refl s.sub) ⟨by rw [h1, h2], by rw [h]; trivial⟩⟩
theorem bv_int {i : Int} {j pos} : BV X (.Constant (.int i) j pos) Γ (.int i) := fun σ B H s Q q => can_of pe_int (q _ B H (.refl s.sub) (.int i))
theorem bv_bl {c : Bool} {j pos} : BV X (.Constant (.bool c) j pos) Γ (.bool c) := fun σ B H s Q q => can_of pe_bl (q _ B H (.refl s.sub) (.bl c))
theorem bv_non {j pos} : BV X (.Constant .none j pos) Γ .none := fun σ B H s Q q => can_of pe_non (q _ B H (.refl s.sub) .non)
theorem bv_str {x : Str} {j pos} : BV X (.Constant (.str x) j pos) Γ (.str x) := fun σ B H s Q q => can_of pe_str (q _ B H (.refl s.sub) (.str x))
theorem bv_glob {x : Str} {d : PyData} {v : V} {u : Value} {pos : Pos} (hg : Gl X x) (hm : X.mg x = some u) (rr : RelV v u) (hr : ∀ B, Rp X.K B d v) (hd : (x == ("__debug__" : Str)) = false := by decide) : BV X (.Name x pos) Γ d :=
  fun σ B H s Q q => can_of (pe_glob hg hm rr hd) (q _ B H (.refl s.sub) (hr B))

/-! #### two parts -/
/-- two expressions, one behind the other, then what is done with both -/
theorem two {σ : L2.St} {B H : Hp} {k : V → V → Hp → Prop} (ha : BR X a Γ r1) (hb : BR X b Γ r2) (s : Stt X.K B H Γ σ)
    (h : ∀ v1 v2 B2 H2, Pur B H B2 H2 → ResR X.K H B2 H2 Γ σ r1 v1 → ResR X.K H B2 H2 Γ σ r2 v2 → k v1 v2 H2) : tCan X a σ H fun x H1 => tCan X b σ H1 fun y H2 => k x y H2 := by
  refine ha σ B H s _ fun v1 B1 H1 o1 g1 => ?_
  refine hb σ B1 H1 (s.pur o1) _ fun v2 B2 H2 o2 g2 => ?_
  exact h v1 v2 B2 H2 (o1.trans o2) (g1.on o2) (g2.back fun a z => o1.heap.free z)
/-- what is asked of an operation on values: it gives r -/
def Op2 (K : PySem.W.Frag) (Γ : En) (r1 r2 r : Res) (ro : R2) : Prop := ∀ σ H0 B H v1 v2, Stt K B H Γ σ → ResR K H0 B H Γ σ r1 v1 → ResR K H0 B H Γ σ r2 v2 → Yl K σ Γ B H r fun Q => ro v1 v2 H Q
/-- .. a truth value, the heap as it was -/
def Op2B (K : PySem.W.Frag) (Γ : En) (r1 r2 : Res) (c : Bool) (ro : R2) : Prop := ∀ σ H0 B H v1 v2, Stt K B H Γ σ → ResR K H0 B H Γ σ r1 v1 → ResR K H0 B H Γ σ r2 v2 → ∀ Q : VK, Q (.bl c) H → ro v1 v2 H Q
theorem br_op {op : Operator} {ro : R2} {pos : Pos} (ho : OpR X (binaryOp op) ro) (ha : BR X a Γ r1) (hb : BR X b Γ r2) (h : Op2 X.K Γ r1 r2 r ro) : BR X (.BinOp a op b pos) Γ r := by
  intro σ B H s Q q
  refine can_of (pe_op ho (pe_can (e := a)) (pe_can (e := b))) ?_
  refine two ha hb s fun v1 v2 B2 H2 o g1 g2 => ?_
  refine h σ H B2 H2 v1 v2 (s.pur o) g1 g2 Q fun v B3 H3 o3 g3 => ?_
  exact q v B3 H3 (o.trans o3) (g3.back fun a z => o.heap.free z)
theorem bv_cmp {op : CmpOp} {ro : R2} {pos : Pos} {c : Bool} (ho : OpR X (compareOp op) ro) (ha : BR X a Γ r1) (hb : BR X b Γ r2) (hm : behindInMarks op b = false) (h : Op2B X.K Γ r1 r2 c ro) : BV X (.Compare a [op] [b] pos) Γ (.bool c) := by
  intro σ B H s Q q
  refine can_of (pe_cmpR ho (pe_can (e := a)) (pe_can (e := b)) hm) ?_
  refine two ha hb s fun v1 v2 B2 H2 o g1 g2 => ?_
  exact h σ H B2 H2 v1 v2 (s.pur o) g1 g2 Q (q (.bl c) B2 H2 o (.bl c))
theorem bt_cmp {op : CmpOp} {ro : R2} {pos : Pos} {c : Bool} (ho : OpR X (compareOp op) ro) (ha : BR X a Γ r1) (hb : BR X b Γ r2) (hm : behindInMarks op b = false) (h : Op2B X.K Γ r1 r2 c ro) : BT X (.Compare a [op] [b] pos) Γ c := by
  intro σ B H s Q q
  refine canT_of (pt_cmpR ho (pe_can (e := a)) (pe_can (e := b)) hm) ?_
  refine two (k := fun x y H2 => ro x y H2 fun x H' => ∃ k, x = .bl k ∧ Q k H') ha hb s fun v1 v2 B2 H2 o g1 g2 => ?_
  exact h σ H B2 H2 v1 v2 (s.pur o) g1 g2 _ ⟨c, rfl, q H2 o.heap⟩
end
end Bv
set_option Elab.async false
set_option autoImplicit false
set_option linter.all false
set_option maxRecDepth 100000
set_option maxHeartbeats 2000000
/-! Bv2: rules for expressions. -/
namespace Bv
open PySem PySem.Spec PyProof.Rows L2

/-! ### looking into results -/
def listOf (Γ : En) : Res → Option (List PyData)
  | .dat (.list ds) => some ds
  | .new ds => some ds
  | .peek i => match Γ[i]? with
    | some (.own ds) => some ds
    | _ => none
  | _ => none
def dicOf (Γ : En) : Res → Option (List (List Key × PyData))
  | .newD ds => some ds
  | .peek i => match Γ[i]? with
    | some (.dic ds) => some ds
    | _ => none
  | _ => none
section
variable {K : PySem.W.Frag} {Γ : En} {σ : L2.St} {H0 B H : Hp} {r : Res} {v : V}
theorem list_at {ds : List PyData} (s : Stt K B H Γ σ) (h : ResR K H0 B H Γ σ r v) (e : listOf Γ r = some ds) : ∃ p xs, v = .ref p ∧ H p = some (.lst xs) ∧ RpAll K B ds xs := by
  cases r with
  | dat d =>
    cases d with
    | list es =>
      have e' : es = ds := Option.some.inj e
      subst e'
      cases h with
      | lst h g => exact ⟨_, _, rfl, s.sub _ _ h, g⟩
    | _ => cases e
  | new es =>
    have e' : es = ds := Option.some.inj e
    subst e'
    obtain ⟨p, xs, e1, _, _, h1, g⟩ := h
    exact ⟨p, xs, e1, h1, g⟩
  | newD es => cases e
  | pairP i b => cases e
  | pair i b => cases e
  | peek i =>
    obtain ⟨h1, h2⟩ := h
    unfold listOf at e
    cases q : Γ[i]? with
    | none => simp [q] at e
    | some t =>
      cases t with
      | own es =>
        simp only [q] at e
        have e' : es = ds := Option.some.inj e
        subst e'
        obtain ⟨ov, g1, p, xs, g2, _, g3, g4⟩ := s.ent i _ q
        rw [g2] at g1
        have e2 := Option.some.inj (Option.some.inj (h1.symm.trans g1))
        exact ⟨p, xs, e2, g3, g4⟩
      | no => simp [q] at e
      | dat d => simp [q] at e
      | dic d => simp [q] at e
      | scr d => simp [q] at e
theorem dic_at {ds : List (List Key × PyData)} (s : Stt K B H Γ σ) (h : ResR K H0 B H Γ σ r v) (e : dicOf Γ r = some ds) : ∃ p xs, v = .ref p ∧ H p = some (.dT xs) ∧ RpKv K B ds xs := by
  cases r with
  | dat d => cases e
  | newD es =>
    have e' : es = ds := Option.some.inj e
    subst e'
    obtain ⟨p, xs, e1, _, _, h1, g⟩ := h
    exact ⟨p, xs, e1, h1, g⟩
  | new es => cases e
  | pairP i b => cases e
  | pair i b => cases e
  | peek i =>
    obtain ⟨h1, h2⟩ := h
    unfold dicOf at e
    cases q : Γ[i]? with
    | none => simp [q] at e
    | some t =>
      cases t with
      | dic es =>
        simp only [q] at e
        have e' : es = ds := Option.some.inj e
        subst e'
        obtain ⟨ov, g1, p, xs, g2, _, g3, g4⟩ := s.ent i _ q
        rw [g2] at g1
        have e2 := Option.some.inj (Option.some.inj (h1.symm.trans g1))
        exact ⟨p, xs, e2, g3, g4⟩
      | no => simp [q] at e
      | dat d => simp [q] at e
      | own d => simp [q] at e
      | scr d => simp [q] at e
end
/-! ### data by Dp -/
mutual
theorem Rp.dp {K : PySem.W.Frag} {B : Hp} : ∀ (d : PyData) (v : V), Rp K B d v → d.canLay0 = true → Dp K B v d
  | .none, _, h, _ => by cases h; exact .non
  | .bool _, _, h, _ => by cases h; exact .bl _
  | .int _, _, h, _ => by cases h; exact .int _
  | .str _, _, h, _ => by cases h; exact .str _
  | .list ds, _, h, c => by
    cases h with
    | lst h g => exact .lst (.of h) (RpAll.dp ds _ g (by simpa [PyData.canLay0] using c))
  | .tuple ds, _, h, c => by
    cases h with
    | tup h g => exact .tup (.of h) (RpAll.dp ds _ g (by simpa [PyData.canLay0] using c))
  | .dict ds, _, h, c => by simp [PyData.canLay0] at c
theorem RpAll.dp {K : PySem.W.Frag} {B : Hp} : ∀ (ds : List PyData) (vs : List V), RpAll K B ds vs → PyData.canLayAll0 ds = true → DpAll K B vs ds
  | [], _, h, _ => by cases h; exact .nil
  | d :: ds, _, h, c => by
    cases h with
    | cons h t =>
      have c' : d.canLay0 = true ∧ PyData.canLayAll0 ds = true := by simpa [PyData.canLayAll0] using c
      exact .cons (Rp.dp d _ h c'.1) (RpAll.dp ds _ t c'.2)
end
def valOf (Γ : En) : Res → Option PyData
  | .dat d => some d
  | r => (listOf Γ r).map PyData.list
theorem val_dp {K : PySem.W.Frag} {Γ : En} {σ : L2.St} {H0 B H : Hp} {r : Res} {v : V} {d : PyData} (s : Stt K B H Γ σ) (h : ResR K H0 B H Γ σ r v) (e : valOf Γ r = some d) (c : d.canLay0 = true) : Dp K H v d := by
  have key : ∀ ds, listOf Γ r = some ds → d = .list ds → Dp K H v d := fun ds el ed => by
    obtain ⟨p, xs, rfl, h1, g⟩ := list_at s h el
    subst ed
    exact .lst (.of h1) (RpAll.dp ds _ (g.up s.sub) (by simpa [PyData.canLay0] using c))
  cases r with
  | dat d' =>
    have e' : d' = d := Option.some.inj e
    subst e'
    exact Rp.dp _ _ (Rp.up h s.sub) c
  | new ds => exact key ds rfl (Option.some.inj e).symm
  | newD ds => cases e
  | pairP i b => cases e
  | pair i b => cases e
  | peek i =>
    have e2 : (listOf Γ (.peek i)).map PyData.list = some d := e
    cases q : listOf Γ (.peek i) with
    | none => rw [q] at e2; cases e2
    | some ds =>
      rw [q] at e2
      exact key ds q (Option.some.inj e2).symm

section
variable {X : Cx} {Γ : En} {e a b c : Expr} {r r1 r2 : Res} {pos : Pos}
/-! ### ints -/
theorem bv_I {op : Operator} {C : Int → Int → Prop} {g : Int → Int → Int} {i j : Int} (ho : OpR X (binaryOp op) (rI C fun i j => .int (g i j))) (ha : BV X a Γ (.int i)) (hb : BV X b Γ (.int j)) (hc : C i j) : BV X (.BinOp a op b pos) Γ (.int (g i j)) :=
  br_op ho ha hb fun σ H0 B H v1 v2 s g1 g2 Q q => by
    cases g1
    cases g2
    exact ⟨i, j, rfl, rfl, hc, q _ B H (.refl s.sub) (.int _)⟩
theorem bv_I0 {op : Operator} {g : Int → Int → Int} {i j : Int} (ho : OpR X (binaryOp op) (rI0 fun i j => .int (g i j))) (ha : BV X a Γ (.int i)) (hb : BV X b Γ (.int j)) : BV X (.BinOp a op b pos) Γ (.int (g i j)) :=
  br_op ho ha hb fun σ H0 B H v1 v2 s g1 g2 Q q => by
    cases g1
    cases g2
    exact ⟨i, j, rfl, rfl, q _ B H (.refl s.sub) (.int _)⟩
theorem bv_add {i j : Int} (ha : BV X a Γ (.int i)) (hb : BV X b Γ (.int j)) : BV X (.BinOp a .Add b pos) Γ (.int (i + j)) := bv_I0 (g := fun i j => i + j) op_add ha hb
theorem bv_sub {i j : Int} (ha : BV X a Γ (.int i)) (hb : BV X b Γ (.int j)) : BV X (.BinOp a .Sub b pos) Γ (.int (i - j)) := bv_I0 (g := fun i j => i - j) op_sub ha hb
theorem bv_mul {i j : Int} (ha : BV X a Γ (.int i)) (hb : BV X b Γ (.int j)) (hc : CMul i j) : BV X (.BinOp a .Mult b pos) Γ (.int (i * j)) := bv_I (g := fun i j => i * j) op_mul ha hb hc
theorem bv_mulX {i j : Int} (ha : BV X a Γ (.int i)) (hb : BV X b Γ (.int j)) (hc : CMulX i j) : BV X (.BinOp a .Mult b pos) Γ (.int (i * j)) := bv_I (g := fun i j => i * j) op_mulX ha hb hc
theorem bv_fdiv {i j : Int} (ha : BV X a Γ (.int i)) (hb : BV X b Γ (.int j)) (hc : CDivW i j) : BV X (.BinOp a .FloorDiv b pos) Γ (.int (i / j)) := bv_I (g := fun i j => i / j) op_fdivW ha hb hc
theorem bv_mod {i j : Int} (ha : BV X a Γ (.int i)) (hb : BV X b Γ (.int j)) (hc : 0 < j) : BV X (.BinOp a .Mod b pos) Γ (.int (i % j)) := bv_I (C := fun _ j => 0 < j) (g := fun i j => i % j) op_mod ha hb hc
def CPowX (i j : Int) : Prop := 0 ≤ j ∧ (Builtin.Int.intBits i : Int) * j ≤ 2 ^ 27
theorem op_powX : OpR X (binaryOp .Pow) (rI CPowX fun i j => .int (i ^ j.toNat)) := opI fun _ _ _ _ _ _ _ hc q => pow_int hc.1 hc.2 q
theorem bv_pow {i j : Int} (ha : BV X a Γ (.int i)) (hb : BV X b Γ (.int j)) (hc : CPowX i j) : BV X (.BinOp a .Pow b pos) Γ (.int (i ^ j.toNat)) := bv_I (g := fun i j => i ^ j.toNat) op_powX ha hb hc
theorem o2_int {i j : Int} {p : Int → Int → Bool} : Op2B X.K Γ (.dat (.int i)) (.dat (.int j)) (p i j) (rI0 fun i j => .bl (p i j)) := fun σ H0 B H v1 v2 s g1 g2 Q q => by
  cases g1
  cases g2
  exact ⟨i, j, rfl, rfl, q⟩
theorem bv_lt {i j : Int} (ha : BV X a Γ (.int i)) (hb : BV X b Γ (.int j)) : BV X (.Compare a [.Lt] [b] pos) Γ (.bool (decide (i < j))) := bv_cmp op_lt ha hb (nomark _) (o2_int (p := fun i j => decide (i < j)))
theorem bv_le {i j : Int} (ha : BV X a Γ (.int i)) (hb : BV X b Γ (.int j)) : BV X (.Compare a [.LtE] [b] pos) Γ (.bool (decide (i ≤ j))) := bv_cmp op_le ha hb (nomark _) (o2_int (p := fun i j => decide (i ≤ j)))
theorem bv_gt {i j : Int} (ha : BV X a Γ (.int i)) (hb : BV X b Γ (.int j)) : BV X (.Compare a [.Gt] [b] pos) Γ (.bool (decide (j < i))) := bv_cmp op_gt ha hb (nomark _) (o2_int (p := fun i j => decide (j < i)))
theorem bv_ge {i j : Int} (ha : BV X a Γ (.int i)) (hb : BV X b Γ (.int j)) : BV X (.Compare a [.GtE] [b] pos) Γ (.bool (decide (j ≤ i))) := bv_cmp op_ge ha hb (nomark _) (o2_int (p := fun i j => decide (j ≤ i)))
theorem bt_lt {i j : Int} (ha : BV X a Γ (.int i)) (hb : BV X b Γ (.int j)) : BT X (.Compare a [.Lt] [b] pos) Γ (decide (i < j)) := bt_cmp op_lt ha hb (nomark _) (o2_int (p := fun i j => decide (i < j)))
theorem bt_le {i j : Int} (ha : BV X a Γ (.int i)) (hb : BV X b Γ (.int j)) : BT X (.Compare a [.LtE] [b] pos) Γ (decide (i ≤ j)) := bt_cmp op_le ha hb (nomark _) (o2_int (p := fun i j => decide (i ≤ j)))
theorem bt_gt {i j : Int} (ha : BV X a Γ (.int i)) (hb : BV X b Γ (.int j)) : BT X (.Compare a [.Gt] [b] pos) Γ (decide (j < i)) := bt_cmp op_gt ha hb (nomark _) (o2_int (p := fun i j => decide (j < i)))
theorem bt_ge {i j : Int} (ha : BV X a Γ (.int i)) (hb : BV X b Γ (.int j)) : BT X (.Compare a [.GtE] [b] pos) Γ (decide (j ≤ i)) := bt_cmp op_ge ha hb (nomark _) (o2_int (p := fun i j => decide (j ≤ i)))
/-! ### == and in, of data -/
theorem o2_eq {d1 d2 : PyData} (h1 : valOf Γ r1 = some d1) (h2 : valOf Γ r2 = some d2) (s1 : SeqAt.shaped d1 = true) (s2 : SeqAt.shaped d2 = true) : Op2B X.K Γ r1 r2 (PyData.eqv d1 d2) (rEqD X.K) := fun σ H0 B H v1 v2 s g1 g2 Q q =>
  ⟨d1, d2, val_dp s g1 h1 (Bool.and_eq_true_iff.mp s1).1, val_dp s g2 h2 (Bool.and_eq_true_iff.mp s2).1, s1, s2, q⟩
theorem o2_ne {d1 d2 : PyData} (h1 : valOf Γ r1 = some d1) (h2 : valOf Γ r2 = some d2) (s1 : SeqAt.shaped d1 = true) (s2 : SeqAt.shaped d2 = true) : Op2B X.K Γ r1 r2 (!PyData.eqv d1 d2) (rNeD X.K) := fun σ H0 B H v1 v2 s g1 g2 Q q =>
  ⟨d1, d2, val_dp s g1 h1 (Bool.and_eq_true_iff.mp s1).1, val_dp s g2 h2 (Bool.and_eq_true_iff.mp s2).1, s1, s2, q⟩
theorem bv_eq {d1 d2 : PyData} {k : Nat} (hr : Room k X.A) (ha : BR X a Γ r1) (hb : BR X b Γ r2) (h1 : valOf Γ r1 = some d1) (h2 : valOf Γ r2 = some d2) (s1 : SeqAt.shaped d1 = true) (s2 : SeqAt.shaped d2 = true) : BV X (.Compare a [.Eq] [b] pos) Γ (.bool (PyData.eqv d1 d2)) :=
  bv_cmp (op_eqD hr.units) ha hb (nomark _) (o2_eq h1 h2 s1 s2)
theorem bt_eq {d1 d2 : PyData} {k : Nat} (hr : Room k X.A) (ha : BR X a Γ r1) (hb : BR X b Γ r2) (h1 : valOf Γ r1 = some d1) (h2 : valOf Γ r2 = some d2) (s1 : SeqAt.shaped d1 = true) (s2 : SeqAt.shaped d2 = true) : BT X (.Compare a [.Eq] [b] pos) Γ (PyData.eqv d1 d2) :=
  bt_cmp (op_eqD hr.units) ha hb (nomark _) (o2_eq h1 h2 s1 s2)
theorem bv_ne {d1 d2 : PyData} {k : Nat} (hr : Room k X.A) (ha : BR X a Γ r1) (hb : BR X b Γ r2) (h1 : valOf Γ r1 = some d1) (h2 : valOf Γ r2 = some d2) (s1 : SeqAt.shaped d1 = true) (s2 : SeqAt.shaped d2 = true) : BV X (.Compare a [.NotEq] [b] pos) Γ (.bool (!PyData.eqv d1 d2)) :=
  bv_cmp (op_neD hr.units) ha hb (nomark _) (o2_ne h1 h2 s1 s2)
theorem bt_ne {d1 d2 : PyData} {k : Nat} (hr : Room k X.A) (ha : BR X a Γ r1) (hb : BR X b Γ r2) (h1 : valOf Γ r1 = some d1) (h2 : valOf Γ r2 = some d2) (s1 : SeqAt.shaped d1 = true) (s2 : SeqAt.shaped d2 = true) : BT X (.Compare a [.NotEq] [b] pos) Γ (!PyData.eqv d1 d2) :=
  bt_cmp (op_neD hr.units) ha hb (nomark _) (o2_ne h1 h2 s1 s2)
theorem units65 {k : Nat} {A : Around} (hr : Room k A) : A.units + 65 < cLine := by have := hr.un; omega
theorem o2_in {d : PyData} {ds : List PyData} (h1 : valOf Γ r1 = some d) (h2 : listOf Γ r2 = some ds) (s1 : SeqAt.shaped d = true) (s2 : SeqAt.shaped (.list ds) = true) : Op2B X.K Γ r1 r2 (ds.any fun z => PyData.eqv z d) (rInD X.K) := fun σ H0 B H v1 v2 s g1 g2 Q q => by
  obtain ⟨p, xs, rfl, h3, g3⟩ := list_at s g2 h2
  have c : (PyData.list ds).canLay0 = true := (Bool.and_eq_true_iff.mp s2).1
  exact ⟨d, ds, val_dp s g1 h1 (Bool.and_eq_true_iff.mp s1).1, .lst (.of h3) (RpAll.dp ds _ (g3.up s.sub) (by simpa [PyData.canLay0] using c)), s1, s2, q⟩
theorem o2_notIn {d : PyData} {ds : List PyData} (h1 : valOf Γ r1 = some d) (h2 : listOf Γ r2 = some ds) (s1 : SeqAt.shaped d = true) (s2 : SeqAt.shaped (.list ds) = true) : Op2B X.K Γ r1 r2 (!ds.any fun z => PyData.eqv z d) (rNotInD X.K) := fun σ H0 B H v1 v2 s g1 g2 Q q => by
  obtain ⟨p, xs, rfl, h3, g3⟩ := list_at s g2 h2
  have c : (PyData.list ds).canLay0 = true := (Bool.and_eq_true_iff.mp s2).1
  exact ⟨d, ds, val_dp s g1 h1 (Bool.and_eq_true_iff.mp s1).1, .lst (.of h3) (RpAll.dp ds _ (g3.up s.sub) (by simpa [PyData.canLay0] using c)), s1, s2, q⟩
theorem bv_in {d : PyData} {ds : List PyData} {k : Nat} (hr : Room k X.A) (ha : BR X a Γ r1) (hb : BR X b Γ r2) (h1 : valOf Γ r1 = some d) (h2 : listOf Γ r2 = some ds) (s1 : SeqAt.shaped d = true) (s2 : SeqAt.shaped (.list ds) = true) (hm : behindInMarks .In b = false := by rfl) : BV X (.Compare a [.In] [b] pos) Γ (.bool (ds.any fun z => PyData.eqv z d)) :=
  bv_cmp (op_inD (units65 hr)) ha hb hm (o2_in h1 h2 s1 s2)
theorem bt_notIn {d : PyData} {ds : List PyData} {k : Nat} (hr : Room k X.A) (ha : BR X a Γ r1) (hb : BR X b Γ r2) (h1 : valOf Γ r1 = some d) (h2 : listOf Γ r2 = some ds) (s1 : SeqAt.shaped d = true) (s2 : SeqAt.shaped (.list ds) = true) (hm : behindInMarks .NotIn b = false := by rfl) : BT X (.Compare a [.NotIn] [b] pos) Γ (!ds.any fun z => PyData.eqv z d) :=
  bt_cmp (op_notInD (units65 hr)) ha hb hm (o2_notIn h1 h2 s1 s2)
/-! ### None -/
theorem o2_isN {d : PyData} {j : Nat} {p' : Pos} : Op2B X.K Γ (.dat d) (.dat .none) (match d with | .none => true | _ => false) (fun x y H Q => y = .non ∧ Q (.bl (decide (x = .non))) H) := fun σ H0 B H v1 v2 s g1 g2 Q q => by
  cases g2
  refine ⟨rfl, ?_⟩
  cases d with
  | none => cases g1; exact q
  | bool _ => cases g1; exact q
  | int _ => cases g1; exact q
  | str _ => cases g1; exact q
  | list _ => cases g1; exact q
  | tuple _ => cases g1; exact q
  | dict ds => cases ds with
    | nil => cases g1; exact q
    | cons _ _ => cases g1
def isNone : PyData → Bool
  | .none => true
  | _ => false
theorem bv_isN {d : PyData} (ha : BV X a Γ d) (hb : BV X b Γ .none) : BV X (.Compare a [.Is] [b] pos) Γ (.bool (isNone d)) := bv_cmp op_isN ha hb (nomark _) (by
  have h := o2_isN (X := X) (Γ := Γ) (d := d) (j := 0) (p' := pos)
  cases d <;> exact h)
/-! ### tests -/
theorem bt_val {k : Bool} (h : BV X e Γ (.bool k)) (he : ∀ whole, isTrue e X.env whole = (do let v ← whole; standAt e.pos; holding [v] (truthy v)) := by intro _; rfl) : BT X e Γ k := by
  intro σ B H s Q q
  refine canT_of (pt_val (pe_can (e := e)) he) ?_
  refine h σ B H s _ fun v B' H' o g => ?_
  cases g
  exact ⟨k, rfl, q H' o.heap⟩
theorem bt_not {k : Bool} (h : BT X e Γ k) : BT X (.UnaryOp .Not e pos) Γ (!k) := fun σ B H s Q q => canT_of (pt_not (pt_can (e := e))) (h σ B H s _ q)
theorem bw_t {k : Bool} (h : BW X e Γ k) : BT X e Γ k := fun σ B H s Q q => canT_of (PW.pt (pw_can (e := e))) (h σ B H s Q q)
theorem bw_and1 {k : Bool} (h : BT X a Γ k) : BW X (.BoolOp .And [a] pos) Γ k := fun σ B H s Q q => canW_of (pw_and1 (pt_can (e := a))) (h σ B H s Q q)
theorem bw_or1 {k : Bool} (h : BT X a Γ k) : BW X (.BoolOp .Or [a] pos) Γ k := fun σ B H s Q q => canW_of (pw_or1 (pt_can (e := a))) (h σ B H s Q q)
theorem bw_and {k l : Bool} {rest : List Expr} (h : BT X a Γ k) (g : k = true → BW X (.BoolOp .And (b :: rest) pos) Γ l) : BW X (.BoolOp .And (a :: b :: rest) pos) Γ (k && l) := by
  intro σ B H s Q q
  refine canW_of (pw_and (pt_can (e := a)) (pw_can (e := .BoolOp .And (b :: rest) pos))) ?_
  refine h σ B H s _ fun H1 e1 => ?_
  cases k with
  | true => exact g rfl σ B H1 (s.pur (.grown s.sub e1)) Q fun H2 e2 => q H2 (e1.trans e2)
  | false => exact q H1 e1
theorem bw_or {k l : Bool} {rest : List Expr} (h : BT X a Γ k) (g : k = false → BW X (.BoolOp .Or (b :: rest) pos) Γ l) : BW X (.BoolOp .Or (a :: b :: rest) pos) Γ (k || l) := by
  intro σ B H s Q q
  refine canW_of (pw_or (pt_can (e := a)) (pw_can (e := .BoolOp .Or (b :: rest) pos))) ?_
  refine h σ B H s _ fun H1 e1 => ?_
  cases k with
  | false => exact g rfl σ B H1 (s.pur (.grown s.sub e1)) Q fun H2 e2 => q H2 (e1.trans e2)
  | true => exact q H1 e1
/-- .. as values -/
theorem bv_one {op} (h : BR X a Γ r) : BR X (.BoolOp op [a] pos) Γ r := fun σ B H s Q q => can_of (pe_one (pe_can (e := a))) (h σ B H s Q q)
theorem bv_and {k l : Bool} {rest : List Expr} (h : BV X a Γ (.bool k)) (g : k = true → BV X (.BoolOp .And (b :: rest) pos) Γ (.bool l)) : BV X (.BoolOp .And (a :: b :: rest) pos) Γ (.bool (k && l)) := by
  intro σ B H s Q q
  refine can_of (pe_and (pe_can (e := a)) (pe_can (e := .BoolOp .And (b :: rest) pos))) ?_
  refine h σ B H s _ fun v B1 H1 o1 g1 => ?_
  cases g1
  refine ⟨k, rfl, ?_⟩
  cases k with
  | true => exact g rfl σ B1 H1 (s.pur o1) Q fun v B2 H2 o2 g2 => q v B2 H2 (o1.trans o2) g2
  | false => exact q _ B1 H1 o1 (.bl _)
theorem bv_or {k l : Bool} {rest : List Expr} (h : BV X a Γ (.bool k)) (g : k = false → BV X (.BoolOp .Or (b :: rest) pos) Γ (.bool l)) : BV X (.BoolOp .Or (a :: b :: rest) pos) Γ (.bool (k || l)) := by
  intro σ B H s Q q
  refine can_of (pe_or (pe_can (e := a)) (pe_can (e := .BoolOp .Or (b :: rest) pos))) ?_
  refine h σ B H s _ fun v B1 H1 o1 g1 => ?_
  cases g1
  refine ⟨k, rfl, ?_⟩
  cases k with
  | false => exact g rfl σ B1 H1 (s.pur o1) Q fun v B2 H2 o2 g2 => q v B2 H2 (o1.trans o2) g2
  | true => exact q _ B1 H1 o1 (.bl _)
theorem bv_not {k : Bool} (h : BV X e Γ (.bool k)) : BV X (.UnaryOp .Not e pos) Γ (.bool (!k)) := by
  intro σ B H s Q q
  refine can_of (pe_not (pe_can (e := e))) ?_
  refine h σ B H s _ fun v B1 H1 o1 g1 => ?_
  cases g1
  exact ⟨k, rfl, q _ B1 H1 o1 (.bl _)⟩
theorem br_if {k : Bool} (h : BT X c Γ k) (h1 : k = true → BR X a Γ r) (h2 : k = false → BR X b Γ r) : BR X (.IfExp c a b pos) Γ r := by
  intro σ B H s Q q
  refine can_of (pe_ifExp (pt_can (e := c)) (pe_can (e := a)) (pe_can (e := b))) ?_
  refine h σ B H s _ fun H1 e1 => ?_
  have p : Pur B H B H1 := .grown s.sub e1
  cases k with
  | true => exact h1 rfl σ B H1 (s.pur p) Q fun v B2 H2 o2 g2 => q v B2 H2 (p.trans o2) (g2.back fun a z => e1.free z)
  | false => exact h2 rfl σ B H1 (s.pur p) Q fun v B2 H2 o2 g2 => q v B2 H2 (p.trans o2) (g2.back fun a z => e1.free z)
/-! ### arguments, displays -/
theorem ba_nil : BA X [] Γ [] := fun σ B H s Q q => canA_of pa_nil (q [] B H (.refl s.sub) .nil)
theorem ba_cons {es : List Expr} {d : PyData} {ds : List PyData} (h : BV X e Γ d) (t : BA X es Γ ds) (hs : starEach (e :: es) X.env = (false, eval e X.env) :: starEach es X.env := by rfl) : BA X (e :: es) Γ (d :: ds) := by
  intro σ B H s Q q
  refine canA_of (pa_cons (pe_can (e := e)) (pa_can (es := es)) hs) ?_
  refine h σ B H s _ fun v B1 H1 o1 g1 => ?_
  exact t σ B1 H1 (s.pur o1) _ fun vs B2 H2 o2 g2 => q _ B2 H2 (o1.trans o2) (.cons (Rp.up g1 o2.ex) g2)
theorem ba_star {es : List Expr} {ds es' : List PyData} {p : Pos} (h : BR X e Γ r) (hl : listOf Γ r = some ds) (t : BA X es Γ es') (hs : starEach (.Starred e p :: es) X.env = (true, eval e X.env) :: starEach es X.env := by rfl) : BA X (.Starred e p :: es) Γ (ds ++ es') := by
  intro σ B H s Q q
  refine canA_of (StX.pa_star (pe_can (e := e)) (pa_can (es := es)) hs) ?_
  refine h σ B H s _ fun v B1 H1 o1 g1 => ?_
  obtain ⟨p, xs, e1, h1, g⟩ := list_at (s.pur o1) g1 hl
  refine ⟨p, xs, e1, .inr (.of h1), ?_⟩
  exact t σ B1 H1 (s.pur o1) _ fun vs B2 H2 o2 g2 => q _ B2 H2 (o1.trans o2) ((g.up o2.ex).app g2)
theorem br_lst {es : List Expr} {ds : List PyData} (h : BA X es Γ ds) (hl : ds.length ≤ sizeLine) : BR X (.List es pos) Γ (.new ds) := by
  intro σ B H s Q q
  refine can_of (pe_lst (pa_can (es := es))) ?_
  refine h σ B H s _ fun vs B1 H1 o1 g1 => ⟨by rw [← g1.len]; exact hl, fun p hp => ?_⟩
  have n1 : Same H1 (upd H1 p (.lst vs)) := same_upd hp
  exact q _ B1 _ (o1.trans (.grown o1.sub n1)) ⟨p, vs, rfl, o1.heap.free hp, o1.sub.free hp, upd_same, g1⟩
theorem bv_tup {es : List Expr} {x1 : Nat} {ds : List PyData} (h : BA X es Γ ds) (hl : ds.length ≤ sizeLine) : BV X (.Tuple es x1 pos) Γ (.tuple ds) := by
  intro σ B H s Q q
  refine can_of (pe_tup (pa_can (es := es))) ?_
  refine h σ B H s _ fun vs B1 H1 o1 g1 => ⟨by rw [← g1.len]; exact hl, fun p hp => ?_⟩
  exact q _ _ _ (o1.trans (.laid o1.sub hp)) (.tup upd_same (g1.up (same_upd (o1.sub.free hp))))
end
end Bv
set_option Elab.async false
set_option autoImplicit false
set_option linter.all false
set_option maxRecDepth 100000
set_option maxHeartbeats 2000000
/-! Bv3: what acts: expressions with effects on owned lists, argument lists, calls of own defs. -/
namespace Bv
open PySem PySem.Spec PyProof.Rows L2

section
variable {K : PySem.W.Frag} {Γ Γ' : En} {σ : L2.St} {H0 B H B' H' : Hp} {r : Res} {v : V}
def isPeek : Res → Option Nat
  | .peek i => some i
  | .pairP i _ => some i
  | _ => none
/-- a result lives on through an act that leaves its slot owned -/
theorem ResR.onE (h : ResR K H0 B H Γ σ r v) (hw : ∀ a, Owned Γ σ a → H0 a ≠ none) (o : Out K σ Γ B H Γ' B' H') (hp : ∀ i, isPeek r = some i → isOwn Γ'[i]?) : ResR K H0 B' H' Γ' σ r v := by
  cases r with
  | dat d => exact Rp.up h o.step.ex
  | new ds =>
    obtain ⟨p, xs, e, h0, hb, hh, g⟩ := h
    have np : ¬ Owned Γ σ p := fun z => hw p z h0
    exact ⟨p, xs, e, h0, o.step.new p np (by rw [hh]; exact (fun z => nomatch z)) hb, o.step.keep p _ np hh, g.up o.step.ex⟩
  | newD ds =>
    obtain ⟨p, xs, e, h0, hb, hh, g⟩ := h
    have np : ¬ Owned Γ σ p := fun z => hw p z h0
    exact ⟨p, xs, e, h0, o.step.new p np (by rw [hh]; exact (fun z => nomatch z)) hb, o.step.keep p _ np hh, g.up o.step.ex⟩
  | peek i => exact ⟨h.1, hp i rfl⟩
  | pairP i b =>
    obtain ⟨t, p, q, ys, e, t0, ht, hs, hi, n, h0, hb, hh, g⟩ := h
    have nt : ¬ Owned Γ σ t := fun z => hw t z t0
    have nq : ¬ Owned Γ σ q := fun z => hw q z h0
    exact ⟨t, p, q, ys, e, t0, o.step.keep t _ nt ht, hs, hp i rfl, n, h0, o.step.new q nq (by rw [hh]; exact (fun z => nomatch z)) hb, o.step.keep q _ nq hh, g.up o.step.ex⟩
  | pair a b =>
    obtain ⟨t, p, q, xs, ys, e, t0, ht, n, ⟨p0, pb, ph, pg⟩, h0, hb, hh, g⟩ := h
    have nt : ¬ Owned Γ σ t := fun z => hw t z t0
    have np : ¬ Owned Γ σ p := fun z => hw p z p0
    have nq : ¬ Owned Γ σ q := fun z => hw q z h0
    exact ⟨t, p, q, xs, ys, e, t0, o.step.keep t _ nt ht, n, ⟨p0, o.step.new p np (by rw [ph]; exact (fun z => nomatch z)) pb, o.step.keep p _ np ph, pg.up o.step.ex⟩, h0, o.step.new q nq (by rw [hh]; exact (fun z => nomatch z)) hb, o.step.keep q _ nq hh, g.up o.step.ex⟩
/-- the addresses of fresh results are apart -/
def isNewR : Res → Prop
  | .new _ => True
  | .newD _ => True
  | _ => False
def ResRs (K : PySem.W.Frag) (H0 B H : Hp) (Γ : En) (σ : L2.St) : List Res → List V → Prop
  | [], vs => vs = []
  | r :: rs, vs => ∃ v ws, vs = v :: ws ∧ ResR K H0 B H Γ σ r v ∧ ResRs K H0 B H Γ σ rs ws ∧ (isNewR r → ∀ (j : Nat) (q : Res), rs[j]? = some q → isNewR q → ws[j]? ≠ some v)
end
/-- the arguments, whatever they do -/
def EVA (X : Cx) (es : List Expr) (Γ : En) (Φ : List Res → En → Prop) : Prop := ∀ σ B H, Stt X.K B H Γ σ → ∀ Q : List V → Hp → Prop, (∀ vs rs Γ' B' H', Out X.K σ Γ B H Γ' B' H' → ResRs X.K H B' H' Γ' σ rs vs → Φ rs Γ' → Q vs H') → tCanA X es σ H Q

section
variable {X : Cx} {Γ : En} {e a b c : Expr} {r r1 r2 : Res} {pos : Pos} {es : List Expr}
theorem ResRs.back {K : PySem.W.Frag} {H0 H1 B H : Hp} {σ : L2.St} (hd : ∀ a, H1 a = none → H0 a = none) : ∀ {rs : List Res} {vs : List V}, ResRs K H1 B H Γ σ rs vs → ResRs K H0 B H Γ σ rs vs
  | [], _, h => h
  | r :: rs, _, ⟨v, ws, e, h, t, n⟩ => ⟨v, ws, e, h.back hd, ResRs.back hd t, n⟩
theorem ResRs.get {K : PySem.W.Frag} {H0 B H : Hp} {σ : L2.St} : ∀ {rs : List Res} {vs : List V} {j : Nat} {r : Res}, ResRs K H0 B H Γ σ rs vs → rs[j]? = some r → ∃ v, vs[j]? = some v ∧ ResR K H0 B H Γ σ r v
  | [], _, _, _, _, e => by simp at e
  | _ :: _, _, 0, _, ⟨v, ws, e1, h, _, _⟩, e => by
    have e' := Option.some.inj e
    subst e' e1
    exact ⟨v, rfl, h⟩
  | _ :: _, _, j + 1, _, ⟨v, ws, e1, _, t, _⟩, e => by
    subst e1
    obtain ⟨u, h1, h2⟩ := ResRs.get (j := j) t (by simpa using e)
    exact ⟨u, by simpa using h1, h2⟩
theorem ResRs.got {K : PySem.W.Frag} {H0 B H : Hp} {σ : L2.St} : ∀ {rs : List Res} {vs : List V} {j : Nat} {v : V}, ResRs K H0 B H Γ σ rs vs → vs[j]? = some v → ∃ r, rs[j]? = some r ∧ ResR K H0 B H Γ σ r v
  | [], _, _, _, h, e => by cases (show _ = [] from h); simp at e
  | r :: _, _, 0, _, ⟨v, ws, e1, h, _, _⟩, e => by
    subst e1
    have e' := Option.some.inj e
    subst e'
    exact ⟨r, rfl, h⟩
  | _ :: _, _, j + 1, _, ⟨v, ws, e1, _, t, _⟩, e => by
    subst e1
    obtain ⟨u, h1, h2⟩ := ResRs.got (j := j) t (by simpa using e)
    exact ⟨u, by simpa using h1, h2⟩
theorem ResRs.len {K : PySem.W.Frag} {H0 B H : Hp} {σ : L2.St} : ∀ {rs : List Res} {vs : List V}, ResRs K H0 B H Γ σ rs vs → rs.length = vs.length
  | [], _, h => by cases (show _ = [] from h); rfl
  | _ :: _, _, ⟨v, ws, e, _, t, _⟩ => by subst e; show _ + 1 = _ + 1; rw [ResRs.len t]
theorem ResRs.apart {K : PySem.W.Frag} {H0 B H : Hp} {σ : L2.St} : ∀ {rs : List Res} {vs : List V} {i j : Nat} {r q : Res} {v : V}, ResRs K H0 B H Γ σ rs vs → rs[i]? = some r → rs[j]? = some q → isNewR r → isNewR q → vs[i]? = some v → vs[j]? = some v → i = j
  | [], _, _, _, _, _, _, _, e, _, _, _, _, _ => by simp at e
  | _ :: _, _, 0, 0, _, _, _, _, _, _, _, _, _, _ => rfl
  | _ :: _, _, 0, j + 1, _, _, _, ⟨u, ws, e1, _, _, n⟩, h1, h2, n1, n2, g1, g2 => by
    subst e1
    have a1 := Option.some.inj h1
    have a2 := Option.some.inj g1
    subst a1 a2
    exact absurd (by simpa using g2) (n n1 j _ (by simpa using h2) n2)
  | _ :: _, _, i + 1, 0, _, _, _, ⟨u, ws, e1, _, _, n⟩, h1, h2, n1, n2, g1, g2 => by
    subst e1
    have a1 := Option.some.inj h2
    have a2 := Option.some.inj g2
    subst a1 a2
    exact absurd (by simpa using g1) (n n2 i _ (by simpa using h1) n1)
  | _ :: _, _, i + 1, j + 1, _, _, _, ⟨u, ws, e1, _, t, _⟩, h1, h2, n1, n2, g1, g2 => by
    subst e1
    rw [ResRs.apart (i := i) (j := j) t (by simpa using h1) (by simpa using h2) n1 n2 (by simpa using g1) (by simpa using g2)]

theorem eva_nil {Φ : List Res → En → Prop} (h : Φ [] Γ) : EVA X [] Γ Φ := fun σ B H s Q q => canA_of pa_nil (q [] [] Γ B H (.refl s) rfl h)
theorem eva_cons {Φ : List Res → En → Prop} (h : EV X e Γ fun r Γ1 => EVA X es Γ1 fun rs Γ2 => (∀ i, isPeek r = some i → isOwn Γ2[i]?) ∧ Φ (r :: rs) Γ2) (hs : starEach (e :: es) X.env = (false, eval e X.env) :: starEach es X.env := by rfl) : EVA X (e :: es) Γ Φ := by
  intro σ B H s Q q
  refine canA_of (pa_cons (pe_can (e := e)) (pa_can (es := es)) hs) ?_
  refine h σ B H s _ fun v r Γ1 B1 H1 o1 g1 h1 => ?_
  refine h1 σ B1 H1 o1.st _ fun vs rs Γ2 B2 H2 o2 g2 ⟨hp, h2⟩ => ?_
  have own0 : ∀ a, Owned Γ1 σ a → H a ≠ none := fun a ⟨i, hi⟩ => (s.there ⟨i, o1.own i a hi⟩).1
  refine q (v :: vs) (r :: rs) Γ2 B2 H2 (o1.trans o2) ⟨v, vs, rfl, g1.onE own0 o2 hp, g2.back o1.step.dom, fun n1 j q' hj n2 hv => ?_⟩ h2
  obtain ⟨u, hu, hq⟩ := g2.get hj
  rw [hv] at hu
  have e' := Option.some.inj hu
  subst e'
  have there : ∀ p, v = .ref p → H1 p ≠ none := fun p ep => by
    cases r with
    | new ds => obtain ⟨p', xs, e2, _, _, h3, _⟩ := g1; rw [e2] at ep; cases ep; rw [h3]; exact (fun z => nomatch z)
    | newD ds => obtain ⟨p', xs, e2, _, _, h3, _⟩ := g1; rw [e2] at ep; cases ep; rw [h3]; exact (fun z => nomatch z)
    | dat d => exact n1.elim
    | peek d => exact n1.elim
    | pairP i b => exact n1.elim
    | pair i b => exact n1.elim
  cases q' with
  | new ds => obtain ⟨p', xs, e2, h3, _⟩ := hq; exact there p' e2 h3
  | newD ds => obtain ⟨p', xs, e2, h3, _⟩ := hq; exact there p' e2 h3
  | dat d => exact n2.elim
  | peek d => exact n2.elim
  | pairP i b => exact n2.elim
  | pair i b => exact n2.elim
/-- values alone -/
theorem BA.eva {ds : List PyData} {Φ : List Res → En → Prop} (h : BA X es Γ ds) (q : Φ (ds.map .dat) Γ) : EVA X es Γ Φ := fun σ B H s Q k => h σ B H s Q fun vs B' H' o g => k vs _ Γ B' H' (o.out s) (by
  have key : ∀ {ds : List PyData} {vs : List V}, RpAll X.K B' ds vs → ResRs X.K H B' H' Γ σ (ds.map .dat) vs := by
    intro ds
    induction ds with
    | nil => intro vs g; cases g; rfl
    | cons d ds ih =>
      intro vs g
      cases g with
      | cons g1 g2 => exact ⟨_, _, rfl, g1, ih g2, fun n => n.elim⟩
  exact key g) q
/-- a fresh list as data, an owned one given away -/
def gives (Γ : En) : Res → Option (PyData × En)
  | .dat d => some (d, Γ)
  | .new ds => some (.list ds, Γ)
  | .newD _ => none
  | .pairP _ _ => none
  | .pair _ _ => none
  | .peek i => match Γ[i]? with
    | some (.own ds) => some (.list ds, Γ.set i (.dat (.list ds)))
    | _ => none
theorem Out.giveNew {K : PySem.W.Frag} {σ : L2.St} {B H B' H' : Hp} {Γ' : En} {p : Addr} {xs : List V} (s : Stt K B H Γ σ) (o : Out K σ Γ B H Γ' B' H') (h0 : H p = none) (hb : B' p = none) (hh : H' p = some (.lst xs)) : Out K σ Γ B H Γ' (upd B' p (.lst xs)) H' := by
  have hne : ∀ a, H a ≠ none → a ≠ p := fun a h z => by subst z; exact h h0
  refine ⟨⟨o.step.ex.trans (same_upd hb), same_upd2 o.step.sub hh, o.step.keep, o.step.dom, fun a n h1 h2 => by rw [upd_ne (hne a h1)]; exact o.step.new a n h1 h2⟩, o.own, ?_⟩
  refine ⟨o.st.len, same_upd2 o.step.sub hh, fun i t hi => ?_, o.st.sep⟩
  obtain ⟨ov, h1, h2⟩ := o.st.ent i t hi
  refine ⟨ov, h1, ?_⟩
  have own : ∀ q, ov = some (.ref q) → isOwn (some t) → q ≠ p := fun q e1 e2 => hne q (s.there ⟨i, o.own i q ⟨by rw [h1, e1], by rw [hi]; exact e2⟩⟩).1
  cases t with
  | no => exact h2
  | dat d => obtain ⟨v, e1, g⟩ := h2; exact ⟨v, e1, g.up (same_upd hb)⟩
  | own ds => obtain ⟨q, xs', q1, q2, q3, q4⟩ := h2; exact ⟨q, xs', q1, by rw [upd_ne (own q q1 trivial)]; exact q2, q3, q4.up (same_upd hb)⟩
  | dic ds => obtain ⟨q, xs', q1, q2, q3, q4⟩ := h2; exact ⟨q, xs', q1, by rw [upd_ne (own q q1 trivial)]; exact q2, q3, q4.up (same_upd hb)⟩
  | scr ns => obtain ⟨q, q1, q2⟩ := h2; exact ⟨q, q1, same_l (same_upd hb) q2⟩
theorem set_get {α : Type} {l : List α} {i j : Nat} {x y : α} (h : (l.set i x)[j]? = some y) : (i = j ∧ y = x) ∨ (i ≠ j ∧ l[j]? = some y) := by
  by_cases e : i = j
  · subst e
    by_cases hl : i < l.length
    · rw [List.getElem?_set_self hl] at h
      exact .inl ⟨rfl, (Option.some.inj h).symm⟩
    · rw [List.getElem?_eq_none (by simpa using hl)] at h
      cases h
  · rw [List.getElem?_set_ne e] at h
    exact .inr ⟨e, h⟩
/-- an owned list becomes data: its slot holds it as such -/
theorem Stt.freeze {K : PySem.W.Frag} {σ : L2.St} {B H : Hp} {i : Nat} {ds : List PyData} (s : Stt K B H Γ σ) (h : Γ[i]? = some (.own ds)) : ∃ p xs, σ[i]? = some (some (.ref p)) ∧ B p = none ∧ H p = some (.lst xs) ∧ RpAll K B ds xs ∧ ownAt Γ σ i p ∧ Stt K (upd B p (.lst xs)) H (Γ.set i (.dat (.list ds))) σ := by
  obtain ⟨ov, h1, p, xs, e1, hb, hh, g⟩ := s.ent i _ h
  subst e1
  have op : ownAt Γ σ i p := ⟨h1, by rw [h]; trivial⟩
  refine ⟨p, xs, h1, hb, hh, g, op, ⟨by rw [List.length_set]; exact s.len, same_upd2 s.sub hh, fun j t hj => ?_, fun j k a h2 h3 => ?_⟩⟩
  · rcases set_get hj with ⟨rfl, rfl⟩ | ⟨ne, hj⟩
    · exact ⟨_, h1, _, rfl, .lst upd_same (g.up (same_upd hb))⟩
    · obtain ⟨ov, h2, h3⟩ := s.ent j t hj
      refine ⟨ov, h2, ?_⟩
      have own : ∀ q, ov = some (.ref q) → isOwn (some t) → q ≠ p := fun q e1 e2 z => ne (s.sep i j p op ⟨by rw [h2, e1, z], by rw [hj]; exact e2⟩)
      cases t with
      | no => exact h3
      | dat d => obtain ⟨v, e1, g⟩ := h3; exact ⟨v, e1, g.up (same_upd hb)⟩
      | own ds => obtain ⟨q, xs', q1, q2, q3, q4⟩ := h3; exact ⟨q, xs', q1, by rw [upd_ne (own q q1 trivial)]; exact q2, q3, q4.up (same_upd hb)⟩
      | dic ds => obtain ⟨q, xs', q1, q2, q3, q4⟩ := h3; exact ⟨q, xs', q1, by rw [upd_ne (own q q1 trivial)]; exact q2, q3, q4.up (same_upd hb)⟩
      | scr ns => obtain ⟨q, q1, q2⟩ := h3; exact ⟨q, q1, same_l (same_upd hb) q2⟩
  · have back : ∀ j, ownAt (Γ.set i (.dat (.list ds))) σ j a → ownAt Γ σ j a := fun j ⟨x1, x2⟩ => by
      refine ⟨x1, ?_⟩
      cases q : (Γ.set i (.dat (.list ds)))[j]? with
      | none => rw [q] at x2; exact x2.elim
      | some t =>
        rcases set_get q with ⟨rfl, rfl⟩ | ⟨ne, hj⟩
        · rw [q] at x2; exact x2.elim
        · rw [hj]; rw [q] at x2; exact x2
    exact s.sep j k a (back j h2) (back k h3)
theorem ownAt_set {K : PySem.W.Frag} {σ : L2.St} {i j : Nat} {t : Ent} {a : Addr} (ht : ¬ isOwn (some t)) (h : ownAt (Γ.set i t) σ j a) : ownAt Γ σ j a := by
  refine ⟨h.1, ?_⟩
  have x2 := h.2
  cases q : (Γ.set i t)[j]? with
  | none => rw [q] at x2; exact x2.elim
  | some u =>
    rcases set_get q with ⟨rfl, rfl⟩ | ⟨ne, hj⟩
    · rw [q] at x2; exact (ht x2).elim
    · rw [hj]; rw [q] at x2; exact x2
theorem ev_give {Φ : Res → En → Prop} (h : EV X e Γ fun r Γ1 => ∃ d Γ2, gives Γ1 r = some (d, Γ2) ∧ Φ (.dat d) Γ2) : EV X e Γ Φ := by
  intro σ B H s Q q
  refine h σ B H s Q fun v r Γ1 B1 H1 o1 g1 ⟨d, Γ2, e1, h1⟩ => ?_
  cases r with
  | dat d' =>
    cases e1
    exact q v _ Γ1 B1 H1 o1 g1 h1
  | new ds =>
    cases e1
    obtain ⟨p, xs, rfl, h0, hb, hh, g⟩ := g1
    exact q _ (.dat (.list ds)) Γ1 (upd B1 p (.lst xs)) H1 (o1.giveNew s h0 hb hh) (Rp.lst upd_same (g.up (same_upd hb))) h1
  | newD ds => cases e1
  | pairP i b => cases e1
  | pair i b => cases e1
  | peek i =>
    cases q1 : Γ1[i]? with
    | none => simp [gives, q1] at e1
    | some t =>
      cases t with
      | own ds =>
        simp only [gives, q1, Option.some.injEq, Prod.mk.injEq] at e1
        obtain ⟨rfl, rfl⟩ := e1
        obtain ⟨p, xs, p1, hb, hh, g, op, st⟩ := o1.st.freeze q1
        have ev : v = .ref p := Option.some.inj (Option.some.inj (g1.1.symm.trans p1))
        subst ev
        have op0 := o1.own i p op
        refine q _ (.dat (.list ds)) _ (upd B1 p (.lst xs)) H1 ⟨⟨o1.step.ex.trans (same_upd hb), same_upd2 o1.step.sub hh, o1.step.keep, o1.step.dom, fun a n h1 h2 => ?_⟩, fun j a hj => o1.own j a (ownAt_set (K := X.K) (t := .dat (.list ds)) (fun z => z) hj), st⟩ (Rp.lst upd_same (g.up (same_upd hb))) h1
        have : a ≠ p := fun z => by subst z; exact n ⟨i, op0⟩
        rw [upd_ne this]
        exact o1.step.new a n h1 h2
      | no => simp [gives, q1] at e1
      | dat d => simp [gives, q1] at e1
      | dic d => simp [gives, q1] at e1
      | scr d => simp [gives, q1] at e1
/-- a is asked, then b, then an operation on two pieces of data -/
theorem ev_op {op : Operator} {ro : R2} {Φ : Res → En → Prop} (ho : OpR X (binaryOp op) ro)
    (h : EV X a Γ fun r1 Γ1 => ∃ d1, r1 = .dat d1 ∧ EV X b Γ1 fun r2 Γ2 => ∃ d2 r, r2 = .dat d2 ∧ Op2 X.K Γ2 (.dat d1) (.dat d2) r ro ∧ Φ r Γ2) : EV X (.BinOp a op b pos) Γ Φ := by
  intro σ B H s Q q
  refine can_of (pe_op ho (pe_can (e := a)) (pe_can (e := b))) ?_
  refine h σ B H s _ fun v1 r1 Γ1 B1 H1 o1 g1 ⟨d1, e1, h1⟩ => ?_
  subst e1
  refine h1 σ B1 H1 o1.st _ fun v2 r2 Γ2 B2 H2 o2 g2 ⟨d2, r, e2, hop, hq⟩ => ?_
  subst e2
  refine hop σ H B2 H2 v1 v2 o2.st (Rp.up g1 o2.step.ex) (g2.back o1.step.dom) Q fun v B3 H3 o3 g3 => ?_
  have oo := (o1.trans o2).trans (o3.out o2.st)
  exact q v r Γ2 B3 H3 oo (g3.back fun a z => (o1.trans o2).step.dom a z) hq
theorem ev_cmp {op : CmpOp} {ro : R2} {Φ : Res → En → Prop} (ho : OpR X (compareOp op) ro) (hm : behindInMarks op b = false)
    (h : EV X a Γ fun r1 Γ1 => ∃ d1, r1 = .dat d1 ∧ EV X b Γ1 fun r2 Γ2 => ∃ d2 c, r2 = .dat d2 ∧ Op2B X.K Γ2 (.dat d1) (.dat d2) c ro ∧ Φ (.dat (.bool c)) Γ2) : EV X (.Compare a [op] [b] pos) Γ Φ := by
  intro σ B H s Q q
  refine can_of (pe_cmpR ho (pe_can (e := a)) (pe_can (e := b)) hm) ?_
  refine h σ B H s _ fun v1 r1 Γ1 B1 H1 o1 g1 ⟨d1, e1, h1⟩ => ?_
  subst e1
  refine h1 σ B1 H1 o1.st _ fun v2 r2 Γ2 B2 H2 o2 g2 ⟨d2, c, e2, hop, hq⟩ => ?_
  subst e2
  exact hop σ H B2 H2 v1 v2 o2.st (Rp.up g1 o2.step.ex) (g2.back o1.step.dom) Q (q (.bl c) (.dat (.bool c)) Γ2 B2 H2 (o1.trans o2) (Rp.bl c) hq)
theorem ev_add {Φ : Res → En → Prop} (h : EV X a Γ fun r1 Γ1 => ∃ i, r1 = .dat (.int i) ∧ EV X b Γ1 fun r2 Γ2 => ∃ j, r2 = .dat (.int j) ∧ Φ (.dat (.int (i + j))) Γ2) : EV X (.BinOp a .Add b pos) Γ Φ :=
  ev_op op_add (h.mono fun r Γ1 ⟨i, e1, h1⟩ => ⟨_, e1, h1.mono fun r Γ2 ⟨j, e2, h2⟩ => ⟨_, _, e2, fun σ H0 B H v1 v2 s g1 g2 Q q => by
    cases g1
    cases g2
    exact ⟨i, j, rfl, rfl, q _ B H (.refl s.sub) (.int _)⟩, h2⟩⟩)
theorem ev_sub {Φ : Res → En → Prop} (h : EV X a Γ fun r1 Γ1 => ∃ i, r1 = .dat (.int i) ∧ EV X b Γ1 fun r2 Γ2 => ∃ j, r2 = .dat (.int j) ∧ Φ (.dat (.int (i - j))) Γ2) : EV X (.BinOp a .Sub b pos) Γ Φ :=
  ev_op op_sub (h.mono fun r Γ1 ⟨i, e1, h1⟩ => ⟨_, e1, h1.mono fun r Γ2 ⟨j, e2, h2⟩ => ⟨_, _, e2, fun σ H0 B H v1 v2 s g1 g2 Q q => by
    cases g1
    cases g2
    exact ⟨i, j, rfl, rfl, q _ B H (.refl s.sub) (.int _)⟩, h2⟩⟩)

/-! ### promises by value -/
/-- of the arguments as entries (data, or owned); what it gives and the entries behind it -/
abbrev Sb := List Ent → (Res → List Ent → Prop) → Prop
def toSp (K : PySem.W.Frag) (S : Sb) : Sp := fun vs H Q _ => ∃ B es Φ, Stt K B H es (vs.map some) ∧ S es Φ ∧
  ∀ r v es' B' H', Step (Owned es (vs.map some)) B H B' H' → Stt K B' H' es' (vs.map some) → ResR K H B' H' [] [] r v → Φ r es' → Q v H'
def argEnt (Γ : En) : Res → Ent
  | .dat d => .dat d
  | .new ds => .own ds
  | .newD kvs => .dic kvs
  | .peek i => (Γ[i]?).getD .no
  | .pairP _ _ => .no
  | .pair _ _ => .no
/-- the environment behind a call: owned slots that were handed in hold what the def left -/
def backEn (Γ : En) : List Res → List Ent → En
  | .peek i :: rs, e :: es => (backEn Γ rs es).set i e
  | _ :: rs, _ :: es => backEn Γ rs es
  | _, _ => Γ
def peeks : List Res → List Nat
  | [] => []
  | .peek i :: rs => i :: peeks rs
  | _ :: rs => peeks rs
theorem backEn_get : ∀ {rs : List Res} {es' : List Ent} {j : Nat} {t : Ent}, es'.length = rs.length → (backEn Γ rs es')[j]? = some t →
    (∃ k : Nat, rs[k]? = some (Res.peek j) ∧ es'[k]? = some t) ∨ (Γ[j]? = some t ∧ ∀ k : Nat, rs[k]? ≠ some (Res.peek j))
  | [], [], j, t, _, h => .inr ⟨h, fun k z => by simp at z⟩
  | .peek i :: rs, u :: es', j, t, hl, h => by
    rcases set_get h with ⟨rfl, rfl⟩ | ⟨ne, h⟩
    · exact .inl ⟨0, rfl, rfl⟩
    · rcases backEn_get (rs := rs) (es' := es') (by simpa using hl) h with ⟨k, h1, h2⟩ | ⟨h1, h2⟩
      · exact .inl ⟨k + 1, by simpa using h1, by simpa using h2⟩
      · refine .inr ⟨h1, fun k z => ?_⟩
        cases k with
        | zero => have z' : Res.peek i = Res.peek j := Option.some.inj z
                  cases z'
                  exact ne rfl
        | succ k => exact h2 k (by simpa using z)
  | .dat _ :: rs, _ :: es', j, t, hl, h => by
    rcases backEn_get (rs := rs) (es' := es') (by simpa using hl) h with ⟨k, h1, h2⟩ | ⟨h1, h2⟩
    · exact .inl ⟨k + 1, by simpa using h1, by simpa using h2⟩
    · exact .inr ⟨h1, fun k z => by
        cases k with
        | zero => exact absurd z (by simp)
        | succ k => exact h2 k (by simpa using z)⟩
  | .new _ :: rs, _ :: es', j, t, hl, h => by
    rcases backEn_get (rs := rs) (es' := es') (by simpa using hl) h with ⟨k, h1, h2⟩ | ⟨h1, h2⟩
    · exact .inl ⟨k + 1, by simpa using h1, by simpa using h2⟩
    · exact .inr ⟨h1, fun k z => by
        cases k with
        | zero => exact absurd z (by simp)
        | succ k => exact h2 k (by simpa using z)⟩
  | .newD _ :: rs, _ :: es', j, t, hl, h => by
    rcases backEn_get (rs := rs) (es' := es') (by simpa using hl) h with ⟨k, h1, h2⟩ | ⟨h1, h2⟩
    · exact .inl ⟨k + 1, by simpa using h1, by simpa using h2⟩
    · exact .inr ⟨h1, fun k z => by
        cases k with
        | zero => exact absurd z (by simp)
        | succ k => exact h2 k (by simpa using z)⟩
  | .pairP _ _ :: rs, _ :: es', j, t, hl, h => by
    rcases backEn_get (rs := rs) (es' := es') (by simpa using hl) h with ⟨k, h1, h2⟩ | ⟨h1, h2⟩
    · exact .inl ⟨k + 1, by simpa using h1, by simpa using h2⟩
    · exact .inr ⟨h1, fun k z => by
        cases k with
        | zero => exact absurd z (by simp)
        | succ k => exact h2 k (by simpa using z)⟩
  | .pair _ _ :: rs, _ :: es', j, t, hl, h => by
    rcases backEn_get (rs := rs) (es' := es') (by simpa using hl) h with ⟨k, h1, h2⟩ | ⟨h1, h2⟩
    · exact .inl ⟨k + 1, by simpa using h1, by simpa using h2⟩
    · exact .inr ⟨h1, fun k z => by
        cases k with
        | zero => exact absurd z (by simp)
        | succ k => exact h2 k (by simpa using z)⟩
  | [], _ :: _, _, _, hl, _ => by simp at hl
  | _ :: _, [], _, _, hl, _ => by simp at hl
theorem backEn_len : ∀ (rs : List Res) (es' : List Ent), (backEn Γ rs es').length = Γ.length
  | [], _ => by cases ‹List Ent› <;> rfl
  | .peek i :: rs, [] => rfl
  | .dat _ :: rs, [] => rfl
  | .new _ :: rs, [] => rfl
  | .newD _ :: rs, [] => rfl
  | .pairP _ _ :: rs, [] => rfl
  | .pair _ _ :: rs, [] => rfl
  | .peek i :: rs, e :: es' => by show ((backEn Γ rs es').set i e).length = _; rw [List.length_set, backEn_len rs es']
  | .dat _ :: rs, _ :: es' => backEn_len rs es'
  | .new _ :: rs, _ :: es' => backEn_len rs es'
  | .newD _ :: rs, _ :: es' => backEn_len rs es'
  | .pairP _ _ :: rs, _ :: es' => backEn_len rs es'
  | .pair _ _ :: rs, _ :: es' => backEn_len rs es'
theorem mem_peeks {i : Nat} : ∀ {rs : List Res} {k : Nat}, rs[k]? = some (Res.peek i) → i ∈ peeks rs
  | [], _, h => by simp at h
  | r :: rs, 0, h => by
    have e := Option.some.inj h
    subst e
    exact List.mem_cons_self
  | .peek j :: rs, k + 1, h => List.mem_cons_of_mem _ (mem_peeks (k := k) (by simpa using h))
  | .dat _ :: rs, k + 1, h => mem_peeks (rs := rs) (k := k) (by simpa using h)
  | .new _ :: rs, k + 1, h => mem_peeks (rs := rs) (k := k) (by simpa using h)
  | .newD _ :: rs, k + 1, h => mem_peeks (rs := rs) (k := k) (by simpa using h)
  | .pairP _ _ :: rs, k + 1, h => mem_peeks (rs := rs) (k := k) (by simpa using h)
  | .pair _ _ :: rs, k + 1, h => mem_peeks (rs := rs) (k := k) (by simpa using h)
theorem peeks_inj {i : Nat} : ∀ {rs : List Res} {j k : Nat}, (peeks rs).Nodup → rs[j]? = some (Res.peek i) → rs[k]? = some (Res.peek i) → j = k
  | [], _, _, _, h, _ => by simp at h
  | r :: rs, 0, 0, _, _, _ => rfl
  | r :: rs, 0, k + 1, n, h1, h2 => by
    have e := Option.some.inj h1
    subst e
    exact absurd (mem_peeks (k := k) (by simpa using h2)) (List.nodup_cons.mp n).1
  | r :: rs, j + 1, 0, n, h1, h2 => by
    have e := Option.some.inj h2
    subst e
    exact absurd (mem_peeks (k := j) (by simpa using h1)) (List.nodup_cons.mp n).1
  | r :: rs, j + 1, k + 1, n, h1, h2 => by
    have n' : (peeks rs).Nodup := by
      cases r with
      | peek i => exact (List.nodup_cons.mp n).2
      | _ => exact n
    rw [peeks_inj (j := j) (k := k) n' (by simpa using h1) (by simpa using h2)]
/-- the arguments as entries -/
theorem args_st {K : PySem.W.Frag} {σ : L2.St} {B H B1 H1 : Hp} {Γ1 : En} {rs : List Res} {vs : List V} (s : Stt K B H Γ σ) (o : Out K σ Γ B H Γ1 B1 H1) (g : ResRs K H B1 H1 Γ1 σ rs vs) (n : (peeks rs).Nodup) : Stt K B1 H1 (rs.map (argEnt Γ1)) (vs.map some) := by
  have fr : ∀ a, Owned Γ1 σ a → H a ≠ none := fun a ⟨i, hi⟩ => (s.there ⟨i, o.own i a hi⟩).1
  -- an owned argument: a fresh one, or a slot
  have kind : ∀ {j : Nat} {a : Addr}, ownAt (rs.map (argEnt Γ1)) (vs.map some) j a → vs[j]? = some (.ref a) ∧ ((∃ r, rs[j]? = some r ∧ isNewR r ∧ H a = none) ∨ ∃ i : Nat, rs[j]? = some (Res.peek i) ∧ ownAt Γ1 σ i a) := fun {j a} ⟨x1, x2⟩ => by
    rw [List.getElem?_map] at x1 x2
    cases ev : vs[j]? with
    | none => rw [ev] at x1; cases x1
    | some v =>
      rw [ev] at x1
      have e1 : v = .ref a := Option.some.inj (Option.some.inj x1)
      subst e1
      obtain ⟨r, hr, gr⟩ := g.got ev
      refine ⟨rfl, ?_⟩
      rw [hr] at x2
      cases r with
      | dat d => exact x2.elim
      | new ds => obtain ⟨p, xs, e, h0, _⟩ := gr; cases e; exact .inl ⟨_, hr, trivial, h0⟩
      | newD ds => obtain ⟨p, xs, e, h0, _⟩ := gr; cases e; exact .inl ⟨_, hr, trivial, h0⟩
      | peek i => exact .inr ⟨i, hr, gr⟩
      | pairP i b => exact x2.elim
      | pair i b => exact x2.elim
  refine ⟨by rw [List.length_map, List.length_map, g.len], o.step.sub, fun j t hj => ?_, fun i j a h1 h2 => ?_⟩
  · rw [List.getElem?_map] at hj
    cases er : rs[j]? with
    | none => rw [er] at hj; cases hj
    | some r =>
      rw [er] at hj
      have et : argEnt Γ1 r = t := Option.some.inj hj
      subst et
      obtain ⟨v, hv, gr⟩ := g.get er
      refine ⟨some v, by rw [List.getElem?_map, hv]; rfl, ?_⟩
      cases r with
      | dat d => exact ⟨v, rfl, gr⟩
      | pairP i b => trivial
      | pair i b => trivial
      | new ds => obtain ⟨p, xs, e, h0, hb, hh, q⟩ := gr; exact ⟨p, xs, by rw [e], hb, hh, q⟩
      | newD ds => obtain ⟨p, xs, e, h0, hb, hh, q⟩ := gr; exact ⟨p, xs, by rw [e], hb, hh, q⟩
      | peek i =>
        obtain ⟨g1, g2⟩ := gr
        cases q : Γ1[i]? with
        | none => rw [q] at g2; exact g2.elim
        | some t =>
          obtain ⟨ov, q1, q2⟩ := o.st.ent i t q
          rw [g1] at q1
          have e := Option.some.inj q1
          subst e
          show EntR K B1 H1 ((Γ1[i]?).getD .no) (some v)
          rw [q]
          exact q2
  · obtain ⟨v1, k1⟩ := kind h1
    obtain ⟨v2, k2⟩ := kind h2
    rcases k1 with ⟨r, e1, n1, f1⟩ | ⟨i1, e1, o1⟩
    · rcases k2 with ⟨q, e2, n2, _⟩ | ⟨i2, e2, o2⟩
      · exact g.apart e1 e2 n1 n2 v1 v2
      · exact absurd f1 (fr a ⟨i2, o2⟩)
    · rcases k2 with ⟨q, e2, n2, f2⟩ | ⟨i2, e2, o2⟩
      · exact absurd f2 (fr a ⟨i1, o1⟩)
      · have e3 := o.st.sep i1 i2 a o1 o2
        subst e3
        exact peeks_inj n e1 e2
/-- the environment behind the call -/
theorem back_st {K : PySem.W.Frag} {σ : L2.St} {B H B1 H1 B2 H2 : Hp} {Γ1 : En} {rs : List Res} {vs : List V} {es' : List Ent} (s : Stt K B H Γ σ) (o : Out K σ Γ B H Γ1 B1 H1) (g : ResRs K H B1 H1 Γ1 σ rs vs) (n : (peeks rs).Nodup)
    (st : Step (Owned (rs.map (argEnt Γ1)) (vs.map some)) B1 H1 B2 H2) (t : Stt K B2 H2 es' (vs.map some)) : Out K σ Γ B H (backEn Γ1 rs es') B2 H2 := by
  have fr : ∀ a, Owned Γ1 σ a → H a ≠ none := fun a ⟨i, hi⟩ => (s.there ⟨i, o.own i a hi⟩).1
  have hl : es'.length = rs.length := by rw [t.len, List.length_map, g.len]
  have kind : ∀ a, Owned (rs.map (argEnt Γ1)) (vs.map some) a → H a = none ∨ ∃ (j i : Nat), rs[j]? = some (Res.peek i) ∧ ownAt Γ1 σ i a := fun a ⟨j, x1, x2⟩ => by
    rw [List.getElem?_map] at x1 x2
    cases ev : vs[j]? with
    | none => rw [ev] at x1; cases x1
    | some v =>
      rw [ev] at x1
      have e1 : v = .ref a := Option.some.inj (Option.some.inj x1)
      subst e1
      obtain ⟨r, hr, gr⟩ := g.got ev
      rw [hr] at x2
      cases r with
      | dat d => exact x2.elim
      | new ds => obtain ⟨p, xs, e, h0, _⟩ := gr; cases e; exact .inl h0
      | newD ds => obtain ⟨p, xs, e, h0, _⟩ := gr; cases e; exact .inl h0
      | peek i => exact .inr ⟨j, i, hr, gr⟩
      | pairP i b => exact x2.elim
      | pair i b => exact x2.elim
  have slot : ∀ {j : Nat} {u : Ent}, (backEn Γ1 rs es')[j]? = some u → (∃ (k : Nat) (v : V), rs[k]? = some (Res.peek j) ∧ es'[k]? = some u ∧ vs[k]? = some v ∧ σ[j]? = some (some v) ∧ isOwn Γ1[j]?) ∨ (Γ1[j]? = some u ∧ ∀ k : Nat, rs[k]? ≠ some (Res.peek j)) := fun {j u} h => by
    rcases backEn_get hl h with ⟨k, h1, h2⟩ | h
    · obtain ⟨v, hv, gr⟩ := g.get h1
      exact .inl ⟨k, v, h1, h2, hv, gr.1, gr.2⟩
    · exact .inr h
  have own1 : ∀ j a, ownAt (backEn Γ1 rs es') σ j a → ownAt Γ1 σ j a := fun j a ⟨x1, x2⟩ => by
    refine ⟨x1, ?_⟩
    cases q : (backEn Γ1 rs es')[j]? with
    | none => rw [q] at x2; exact x2.elim
    | some u =>
      rcases slot q with ⟨k, v, h1, h2, h3, h4, h5⟩ | ⟨h, _⟩
      · exact h5
      · rw [h]; rw [q] at x2; exact x2
  refine ⟨o.step.trans st fun a ha => ?_, fun j a h => o.own j a (own1 j a h), ⟨by rw [backEn_len]; exact o.st.len, st.sub, fun j u hj => ?_, fun i j a h1 h2 => o.st.sep i j a (own1 i a h1) (own1 j a h2)⟩⟩
  · rcases kind a ha with h | ⟨j, i, _, h⟩
    · exact .inr h
    · exact .inl ⟨i, o.own i a h⟩
  · rcases slot hj with ⟨k, v, h1, h2, h3, h4, h5⟩ | ⟨h, nk⟩
    · obtain ⟨ov, q1, q2⟩ := t.ent k u h2
      rw [List.getElem?_map, h3] at q1
      have e := Option.some.inj q1
      subst e
      exact ⟨_, h4, q2⟩
    · obtain ⟨ov, q1, q2⟩ := o.st.ent j u h
      refine ⟨ov, q1, ?_⟩
      have notArg : ∀ q, ov = some (.ref q) → isOwn (some u) → ¬ Owned (rs.map (argEnt Γ1)) (vs.map some) q := fun q e1 e2 z => by
        have oq : ownAt Γ1 σ j q := ⟨by rw [q1, e1], by rw [h]; exact e2⟩
        rcases kind q z with h0 | ⟨k, i, hk, hi⟩
        · exact fr q ⟨j, oq⟩ h0
        · have e3 := o.st.sep i j q hi oq
          subst e3
          exact nk k hk
      cases u with
      | no => exact q2
      | dat d => obtain ⟨v, e1, z⟩ := q2; exact ⟨v, e1, z.up st.ex⟩
      | own ds =>
        obtain ⟨q, xs, e1, e2, e3, e4⟩ := q2
        have nq := notArg q e1 trivial
        exact ⟨q, xs, e1, st.new q nq (by rw [e3]; exact (fun z => nomatch z)) e2, st.keep q _ nq e3, e4.up st.ex⟩
      | dic ds =>
        obtain ⟨q, xs, e1, e2, e3, e4⟩ := q2
        have nq := notArg q e1 trivial
        exact ⟨q, xs, e1, st.new q nq (by rw [e3]; exact (fun z => nomatch z)) e2, st.keep q _ nq e3, e4.up st.ex⟩
      | scr ns => obtain ⟨q, e1, z⟩ := q2; exact ⟨q, e1, same_l st.ex z⟩
/-- what a promise gives at a call -/
theorem sp_call {K : PySem.W.Frag} {S : Sb} {σ : L2.St} {B H B1 H1 : Hp} {Γ1 : En} {rs : List Res} {vs : List V} {Φ : Res → En → Prop} {Q : VK} {E : XK} (s : Stt K B H Γ σ) (o : Out K σ Γ B H Γ1 B1 H1) (g : ResRs K H B1 H1 Γ1 σ rs vs) (n : (peeks rs).Nodup)
    (h : S (rs.map (argEnt Γ1)) fun r es' => Φ r (backEn Γ1 rs es')) (q : ∀ v r Γ' B' H', Out K σ Γ B H Γ' B' H' → ResR K H B' H' Γ' σ r v → Φ r Γ' → Q v H') : toSp K S vs H1 Q E := by
  refine ⟨B1, _, _, args_st s o g n, h, fun r v es' B2 H2 st t gr hq => ?_⟩
  refine q v r _ B2 H2 (back_st s o g n st t) ?_ hq
  cases r with
  | dat d => exact gr
  | new ds => obtain ⟨p, xs, e, h0, z⟩ := gr; exact ⟨p, xs, e, o.step.dom p h0, z⟩
  | newD ds => obtain ⟨p, xs, e, h0, z⟩ := gr; exact ⟨p, xs, e, o.step.dom p h0, z⟩
  | peek i => exact absurd gr.1 (by simp)
  | pairP i b =>
    obtain ⟨_, _, _, _, _, _, _, z, _⟩ := gr
    exact absurd z (by simp)
  | pair a b =>
    obtain ⟨t, p, q, xs, ys, e, t0, ht, n, ⟨p0, pg⟩, h0, g⟩ := gr
    exact ⟨t, p, q, xs, ys, e, o.step.dom t t0, ht, n, ⟨o.step.dom p p0, pg⟩, o.step.dom q h0, g⟩
theorem ev_call {x : Str} {p : Pos} {f : Addr} {fd : FuncData} {ps : List Str} {S : Sb} {k : Nat} {Φ : Res → En → Prop} (F : FnOk X.prog X.w X.K X.mg X.base CX0 k f fd ps (toSp X.K S)) (hr : Room k X.A) (hg : Gl X x) (hm : X.mg x = some (.ref f)) (hk : PySem.W.keepIn X.K (.ref f) = true) (hb : Binds X.K fd ps [])
    (h : EVA X (e :: es) Γ fun rs Γ1 => (peeks rs).Nodup ∧ S (rs.map (argEnt Γ1)) fun r es' => Φ r (backEn Γ1 rs es'))
    (hdb : (x == ("__debug__" : Str)) = false := by decide) (he : starEach (e :: es) X.env = (false, eval e X.env) :: starEach es X.env := by rfl) (hpl : (backTo pos (starEach es X.env)).any (·.1) = false := by rfl) : EV X (.Call (.Name x p) (e :: es) [] pos) Γ Φ := by
  intro σ B H s Q q
  refine can_of (pe_call F hr hg hm hk hb .nil pass0 (pa_can (es := e :: es)) hdb he hpl) ?_
  refine h σ B H s _ fun vs rs Γ1 B1 H1 o1 g1 ⟨n, h1⟩ => ?_
  show toSp X.K S (vs ++ []) H1 Q E0
  rw [List.append_nil]
  exact sp_call s o1 g1 n h1 q
/-- the promise on values alone: what is known stays as it is -/
theorem sp_pure {K : PySem.W.Frag} {S : Sb} {B H B1 H1 : Hp} {ds : List PyData} {vs : List V} {r : Res} {Q : VK} {E : XK} {σ : L2.St} (o : Pur B H B1 H1) (g : RpAll K B1 ds vs) (h : S (ds.map .dat) fun r' _ => r' = r) (hp : isPeek r = none) (q : ∀ v B' H', Pur B H B' H' → ResR K H B' H' Γ σ r v → Q v H') : toSp K S vs H1 Q E := by
  have no : ∀ a, ¬ Owned (ds.map Ent.dat) (vs.map some) a := fun a ⟨i, _, z⟩ => by
    rw [List.getElem?_map] at z
    cases e : ds[i]? with
    | none => rw [e] at z; exact z
    | some d => rw [e] at z; exact z
  refine ⟨B1, _, _, ⟨by rw [List.length_map, List.length_map, g.len], o.sub, fun i t hi => ?_, fun i j a h1 _ => (no a ⟨i, h1⟩).elim⟩, h, fun r' v es' B2 H2 st t gr hq => ?_⟩
  · rw [List.getElem?_map] at hi
    cases e : ds[i]? with
    | none => rw [e] at hi; cases hi
    | some d =>
      rw [e] at hi
      have et : Ent.dat d = t := Option.some.inj hi
      subst et
      obtain ⟨v, hv, gv⟩ := g.get e
      exact ⟨some v, by rw [List.getElem?_map, hv]; rfl, v, rfl, gv⟩
  · subst hq
    have p2 : Pur B1 H1 B2 H2 := ⟨fun a o h => st.keep a o (no a) h, st.ex, st.sub, fun a h1 h2 => st.new a (no a) h1 h2⟩
    refine q v B2 H2 (o.trans p2) ?_
    cases r' with
    | dat d => exact gr
    | new ds => obtain ⟨p, xs, e, h0, z⟩ := gr; exact ⟨p, xs, e, o.heap.free h0, z⟩
    | newD ds => obtain ⟨p, xs, e, h0, z⟩ := gr; exact ⟨p, xs, e, o.heap.free h0, z⟩
    | peek i => cases hp
    | pairP i b => cases hp
    | pair a b =>
      obtain ⟨t, p, q, xs, ys, e, t0, ht, n, ⟨p0, pg⟩, h0, g⟩ := gr
      exact ⟨t, p, q, xs, ys, e, o.heap.free t0, ht, n, ⟨o.heap.free p0, pg⟩, o.heap.free h0, g⟩
theorem br_call {x : Str} {p : Pos} {f : Addr} {fd : FuncData} {ps : List Str} {S : Sb} {k : Nat} {ds : List PyData} (F : FnOk X.prog X.w X.K X.mg X.base CX0 k f fd ps (toSp X.K S)) (hr : Room k X.A) (hg : Gl X x) (hm : X.mg x = some (.ref f)) (hk : PySem.W.keepIn X.K (.ref f) = true) (hb : Binds X.K fd ps [])
    (h : BA X (e :: es) Γ ds) (hS : S (ds.map .dat) fun r' _ => r' = r) (hp : isPeek r = none := by rfl)
    (hdb : (x == ("__debug__" : Str)) = false := by decide) (he : starEach (e :: es) X.env = (false, eval e X.env) :: starEach es X.env := by rfl) (hpl : (backTo pos (starEach es X.env)).any (·.1) = false := by rfl) : BR X (.Call (.Name x p) (e :: es) [] pos) Γ r := by
  intro σ B H s Q q
  refine can_of (pe_call F hr hg hm hk hb .nil pass0 (pa_can (es := e :: es)) hdb he hpl) ?_
  refine h σ B H s _ fun vs B1 H1 o1 g1 => ?_
  show toSp X.K S (vs ++ []) H1 Q E0
  rw [List.append_nil]
  exact sp_pure o1 g1 hS hp q
end
end Bv
set_option Elab.async false
set_option autoImplicit false
set_option linter.all false
set_option maxRecDepth 100000
set_option maxHeartbeats 2000000
/-! Bv4: built-ins, subscripts, slices, repr, sorted. -/
namespace Bv
open PySem PySem.Spec PyProof.Rows L2

section
variable {X : Cx} {Γ : En} {e a b c : Expr} {r r1 r2 : Res} {pos : Pos} {es : List Expr} {x : Str} {p : Pos}
/-- a built-in function of one argument -/
theorem br_b1 {id : String} {rr : List V → Hp → VK → Prop} (hc : CallR X (.builtin id) rr) (hg : Gl X x) (hm : X.mg x = none) (hv : bootBuiltins x = some (.builtin id)) (ha : BR X a Γ r1)
    (h : ∀ σ H0 B H v, Stt X.K B H Γ σ → ResR X.K H0 B H Γ σ r1 v → Yl X.K σ Γ B H r fun Q => rr [v] H Q) (hn : x ≠ "__name__" := by decide) (hdb : (x == ("__debug__" : Str)) = false := by decide)
    (he : starEach [a] X.env = (false, eval a X.env) :: starEach [] X.env := by rfl) (hpl : (backTo pos (starEach [] X.env)).any (·.1) = false := by rfl) : BR X (.Call (.Name x p) [a] [] pos) Γ r := by
  intro σ B H s Q q
  refine can_of (pe_callB hc hg hm hv (pa_cons (pe_can (e := a)) pa_nil he) hn hdb he hpl) ?_
  refine ha σ B H s _ fun v B1 H1 o1 g1 => ?_
  exact h σ H B1 H1 v (s.pur o1) g1 Q fun w B2 H2 o2 g2 => q w B2 H2 (o1.trans o2) (g2.back fun a z => o1.heap.free z)
theorem br_t1 {T : String} {rr : List V → Hp → VK → Prop} (hc : CallR X (.type T) rr) (hg : Gl X x) (hm : X.mg x = none) (hv : bootBuiltins x = some (.type T)) (ha : BR X a Γ r1)
    (h : ∀ σ H0 B H v, Stt X.K B H Γ σ → ResR X.K H0 B H Γ σ r1 v → Yl X.K σ Γ B H r fun Q => rr [v] H Q) (hn : x ≠ "__name__" := by decide) (hdb : (x == ("__debug__" : Str)) = false := by decide)
    (he : starEach [a] X.env = (false, eval a X.env) :: starEach [] X.env := by rfl) (hpl : (backTo pos (starEach [] X.env)).any (·.1) = false := by rfl) : BR X (.Call (.Name x p) [a] [] pos) Γ r := by
  intro σ B H s Q q
  refine can_of (pe_callTy hc hg hm hv (pa_cons (pe_can (e := a)) pa_nil he) hn hdb he hpl) ?_
  refine ha σ B H s _ fun v B1 H1 o1 g1 => ?_
  exact h σ H B1 H1 v (s.pur o1) g1 Q fun w B2 H2 o2 g2 => q w B2 H2 (o1.trans o2) (g2.back fun a z => o1.heap.free z)
theorem br_b2 {id : String} {rr : List V → Hp → VK → Prop} (hc : CallR X (.builtin id) rr) (hg : Gl X x) (hm : X.mg x = none) (hv : bootBuiltins x = some (.builtin id)) (ha : BR X a Γ r1) (hb : BR X b Γ r2)
    (h : ∀ σ H0 B H v w, Stt X.K B H Γ σ → ResR X.K H0 B H Γ σ r1 v → ResR X.K H0 B H Γ σ r2 w → Yl X.K σ Γ B H r fun Q => rr [v, w] H Q) (hn : x ≠ "__name__" := by decide) (hdb : (x == ("__debug__" : Str)) = false := by decide)
    (he : starEach [a, b] X.env = (false, eval a X.env) :: starEach [b] X.env := by rfl) (he2 : starEach [b] X.env = (false, eval b X.env) :: starEach [] X.env := by rfl) (hpl : (backTo pos (starEach [b] X.env)).any (·.1) = false := by rfl) : BR X (.Call (.Name x p) [a, b] [] pos) Γ r := by
  intro σ B H s Q q
  refine can_of (pe_callB hc hg hm hv (pa_cons (pe_can (e := a)) (pa_cons (pe_can (e := b)) pa_nil he2) he) hn hdb he hpl) ?_
  refine two (k := fun v w H2 => rr [v, w] H2 Q) ha hb s fun v w B1 H1 o1 g1 g2 => ?_
  exact h σ H B1 H1 v w (s.pur o1) g1 g2 Q fun w B2 H2 o2 g2 => q w B2 H2 (o1.trans o2) (g2.back fun a z => o1.heap.free z)

theorem bv_len {ds : List PyData} (hg : Gl X "len") (hm : X.mg "len" = none) (ha : BR X a Γ r1) (hl : listOf Γ r1 = some ds) (he : starEach [a] X.env = (false, eval a X.env) :: starEach [] X.env := by rfl) (hpl : (backTo pos (starEach [] X.env)).any (·.1) = false := by rfl) : BV X (.Call (.Name "len" p) [a] [] pos) Γ (.int ds.length) :=
  br_b1 call_len_seq hg hm PySem.boot_len ha (fun σ H0 B H v s g Q q => by
    obtain ⟨l, xs, rfl, h1, g1⟩ := list_at s g hl
    refine ⟨l, xs, rfl, .inl (.of h1), ?_⟩
    rw [← g1.len]
    exact q _ B H (.refl s.sub) (Rp.int _)) (by decide) (by decide) he hpl
theorem bv_lenT {ds : List PyData} (hg : Gl X "len") (hm : X.mg "len" = none) (ha : BV X a Γ (.tuple ds)) (he : starEach [a] X.env = (false, eval a X.env) :: starEach [] X.env := by rfl) (hpl : (backTo pos (starEach [] X.env)).any (·.1) = false := by rfl) : BV X (.Call (.Name "len" p) [a] [] pos) Γ (.int ds.length) :=
  br_b1 call_len_seq hg hm PySem.boot_len ha (fun σ H0 B H v s g Q q => by
    cases g with
    | tup h1 g1 =>
      refine ⟨_, _, rfl, .inr (.of (s.sub _ _ h1)), ?_⟩
      rw [← g1.len]
      exact q _ B H (.refl s.sub) (Rp.int _)) (by decide) (by decide) he hpl
theorem bv_abs {i : Int} (hg : Gl X "abs") (hm : X.mg "abs" = none) (ha : BV X a Γ (.int i)) (he : starEach [a] X.env = (false, eval a X.env) :: starEach [] X.env := by rfl) (hpl : (backTo pos (starEach [] X.env)).any (·.1) = false := by rfl) : BV X (.Call (.Name "abs" p) [a] [] pos) Γ (.int (if i < 0 then -i else i)) :=
  br_b1 call_abs hg hm (by decide +kernel) ha (fun σ H0 B H v s g Q q => by
    cases g
    exact ⟨i, rfl, q _ B H (.refl s.sub) (Rp.int _)⟩) (by decide) (by decide) he hpl
theorem bv_toInt {i : Int} (hg : Gl X "int") (hm : X.mg "int" = none) (ha : BV X a Γ (.int i)) (he : starEach [a] X.env = (false, eval a X.env) :: starEach [] X.env := by rfl) (hpl : (backTo pos (starEach [] X.env)).any (·.1) = false := by rfl) : BV X (.Call (.Name "int" p) [a] [] pos) Γ (.int i) :=
  br_t1 call_int1 hg hm (by decide +kernel) ha (fun σ H0 B H v s g Q q => by
    cases g
    exact .inl ⟨i, rfl, q _ B H (.refl s.sub) (Rp.int _)⟩) (by decide) (by decide) he hpl
theorem bv_toIntB {k : Bool} (hg : Gl X "int") (hm : X.mg "int" = none) (ha : BV X a Γ (.bool k)) (he : starEach [a] X.env = (false, eval a X.env) :: starEach [] X.env := by rfl) (hpl : (backTo pos (starEach [] X.env)).any (·.1) = false := by rfl) : BV X (.Call (.Name "int" p) [a] [] pos) Γ (.int (if k then 1 else 0)) :=
  br_t1 call_int1 hg hm (by decide +kernel) ha (fun σ H0 B H v s g Q q => by
    cases g
    exact .inr ⟨k, rfl, q _ B H (.refl s.sub) (Rp.int _)⟩) (by decide) (by decide) he hpl
theorem bv_max {i j : Int} (hc : X.calm = true) (hg : Gl X "max") (hm : X.mg "max" = none) (ha : BV X a Γ (.int i)) (hb : BV X b Γ (.int j)) (he : starEach [a, b] X.env = (false, eval a X.env) :: starEach [b] X.env := by rfl) (he2 : starEach [b] X.env = (false, eval b X.env) :: starEach [] X.env := by rfl) (hpl : (backTo pos (starEach [b] X.env)).any (·.1) = false := by rfl) : BV X (.Call (.Name "max" p) [a, b] [] pos) Γ (.int (if j > i then j else i)) :=
  br_b2 (call_max2 hc) hg hm (by decide +kernel) ha hb (fun σ H0 B H v w s g1 g2 Q q => by
    cases g1
    cases g2
    exact ⟨i, j, rfl, q _ B H (.refl s.sub) (Rp.int _)⟩) (by decide) (by decide) he he2 hpl
theorem bv_min2 {i j : Int} (hc : X.calm = true) (hg : Gl X "min") (hm : X.mg "min" = none) (ha : BV X a Γ (.int i)) (hb : BV X b Γ (.int j)) (he : starEach [a, b] X.env = (false, eval a X.env) :: starEach [b] X.env := by rfl) (he2 : starEach [b] X.env = (false, eval b X.env) :: starEach [] X.env := by rfl) (hpl : (backTo pos (starEach [b] X.env)).any (·.1) = false := by rfl) : BV X (.Call (.Name "min" p) [a, b] [] pos) Γ (.int (if j < i then j else i)) :=
  br_b2 (call_min2 hc) hg hm (by decide +kernel) ha hb (fun σ H0 B H v w s g1 g2 Q q => by
    cases g1
    cases g2
    exact ⟨i, j, rfl, q _ B H (.refl s.sub) (Rp.int _)⟩) (by decide) (by decide) he he2 hpl
theorem bv_sum {ns : List Int} (hc : X.calm = true) (hg : Gl X "sum") (hm : X.mg "sum" = none) (ha : BR X a Γ r1) (hl : listOf Γ r1 = some (ns.map .int)) (he : starEach [a] X.env = (false, eval a X.env) :: starEach [] X.env := by rfl) (hpl : (backTo pos (starEach [] X.env)).any (·.1) = false := by rfl) : BV X (.Call (.Name "sum" p) [a] [] pos) Γ (.int ns.sum) :=
  br_b1 (cr_sum hc) hg hm (by decide +kernel) ha (fun σ H0 B H v s g Q q => by
    obtain ⟨l, xs, rfl, h1, g1⟩ := list_at s g hl
    have e := g1.ints
    subst e
    exact ⟨l, ns, rfl, .of h1, q _ B H (.refl s.sub) (Rp.int _)⟩) (by decide) (by decide) he hpl
theorem bv_min {ns : List Int} {m : Int} (hc : X.calm = true) (hg : Gl X "min") (hm : X.mg "min" = none) (ha : BR X a Γ r1) (hl : listOf Γ r1 = some (ns.map .int)) (h1 : m ∈ ns) (h2 : ∀ y, y ∈ ns → m ≤ y) (he : starEach [a] X.env = (false, eval a X.env) :: starEach [] X.env := by rfl) (hpl : (backTo pos (starEach [] X.env)).any (·.1) = false := by rfl) : BV X (.Call (.Name "min" p) [a] [] pos) Γ (.int m) :=
  br_b1 (cr_min hc) hg hm (by decide +kernel) ha (fun σ H0 B H v s g Q q => by
    obtain ⟨l, xs, rfl, h3, g1⟩ := list_at s g hl
    have e := g1.ints
    subst e
    refine ⟨l, ns, rfl, .of h3, List.length_pos_of_mem h1, fun m' a1 a2 => ?_⟩
    have e : m' = m := Int.le_antisymm (a2 m h1) (h2 m' a1)
    subst e
    exact q _ B H (.refl s.sub) (Rp.int _)) (by decide) (by decide) he hpl
theorem bv_all {bs : List Bool} (hc : X.calm = true) (hg : Gl X "all") (hm : X.mg "all" = none) (ha : BR X a Γ r1) (hl : listOf Γ r1 = some (bs.map .bool)) (he : starEach [a] X.env = (false, eval a X.env) :: starEach [] X.env := by rfl) (hpl : (backTo pos (starEach [] X.env)).any (·.1) = false := by rfl) : BV X (.Call (.Name "all" p) [a] [] pos) Γ (.bool (bs.all id)) :=
  br_b1 (cr_all hc) hg hm (by decide +kernel) ha (fun σ H0 B H v s g Q q => by
    obtain ⟨l, xs, rfl, h3, g1⟩ := list_at s g hl
    have e := g1.bools
    subst e
    exact ⟨l, bs, rfl, .of h3, q _ B H (.refl s.sub) (Rp.bl _)⟩) (by decide) (by decide) he hpl
theorem br_list {ds : List PyData} (hg : Gl X "list") (hm : X.mg "list" = none) (ha : BR X a Γ r1) (hl : listOf Γ r1 = some ds ∨ r1 = .dat (.tuple ds)) (he : starEach [a] X.env = (false, eval a X.env) :: starEach [] X.env := by rfl) (hpl : (backTo pos (starEach [] X.env)).any (·.1) = false := by rfl) : BR X (.Call (.Name "list" p) [a] [] pos) Γ (.new ds) :=
  br_t1 call_list_of hg hm (by decide +kernel) ha (fun σ H0 B H v s g Q q => by
    have key : ∃ l xs, v = .ref l ∧ (SqL X.K H l xs ∨ SqT X.K H l xs) ∧ RpAll X.K B ds xs := by
      rcases hl with hl | hl
      · obtain ⟨l, xs, e, h1, g1⟩ := list_at s g hl
        exact ⟨l, xs, e, .inl (.of h1), g1⟩
      · subst hl
        cases g with
        | tup h1 g1 => exact ⟨_, _, rfl, .inr (.of (s.sub _ _ h1)), g1⟩
    obtain ⟨l, xs, rfl, h1, g1⟩ := key
    refine ⟨l, xs, rfl, h1, fun t ht => ?_⟩
    exact q _ B _ (.grown s.sub (same_upd ht)) ⟨t, xs, rfl, ht, s.sub.free ht, upd_same, g1⟩) (by decide) (by decide) he hpl
theorem bv_tuple {ds : List PyData} (hg : Gl X "tuple") (hm : X.mg "tuple" = none) (ha : BR X a Γ r1) (hl : listOf Γ r1 = some ds) (he : starEach [a] X.env = (false, eval a X.env) :: starEach [] X.env := by rfl) (hpl : (backTo pos (starEach [] X.env)).any (·.1) = false := by rfl) : BV X (.Call (.Name "tuple" p) [a] [] pos) Γ (.tuple ds) :=
  br_t1 call_tuple_of hg hm (by decide +kernel) ha (fun σ H0 B H v s g Q q => by
    obtain ⟨l, xs, rfl, h1, g1⟩ := list_at s g hl
    refine ⟨l, xs, rfl, .inl ⟨.of h1, fun t ht => ?_⟩⟩
    exact q _ _ _ (.laid s.sub ht) (Rp.tup upd_same (g1.up (same_upd (s.sub.free ht))))) (by decide) (by decide) he hpl
theorem bv_bits {i : Int} {apos : Pos} (ha : BV X a Γ (.int i)) (hbase : attributeBase a "bit_length" X.env (eval a X.env) = eval a X.env := by rfl) (hline : (apos.endLine == pos.line) = true := by rfl) : BV X (.Call (.Attribute a "bit_length" apos) [] [] pos) Γ (.int (Builtin.Int.intBits i : Nat)) := by
  intro σ B H s Q q
  refine can_of (pe_bits (pe_can (e := a)) hbase hline) ?_
  refine ha σ B H s _ fun v B1 H1 o1 g1 => ?_
  cases g1
  exact ⟨i, rfl, q _ B1 H1 o1 (Rp.int _)⟩

/-! ### lists: +, *, items, slices -/
theorem br_cat {ds fs : List PyData} (ha : BR X a Γ r1) (hb : BR X b Γ r2) (h1 : listOf Γ r1 = some ds) (h2 : listOf Γ r2 = some fs) (hz : ds.length + fs.length ≤ sizeLine) : BR X (.BinOp a .Add b pos) Γ (.new (ds ++ fs)) :=
  br_op op_cat ha hb fun σ H0 B H v1 v2 s g1 g2 Q q => by
    obtain ⟨l, xs, rfl, e1, k1⟩ := list_at s g1 h1
    obtain ⟨m, ys, rfl, e2, k2⟩ := list_at s g2 h2
    refine ⟨l, m, xs, ys, rfl, rfl, e1, e2, by rw [← k1.len, ← k2.len]; exact hz, fun t ht => ?_⟩
    exact q _ B _ (.grown s.sub (same_upd ht)) ⟨t, _, rfl, ht, s.sub.free ht, upd_same, k1.app k2⟩
theorem br_rep {ds : List PyData} {k : Int} (ha : BR X a Γ r1) (hb : BV X b Γ (.int k)) (h1 : listOf Γ r1 = some ds) (hk : -(2 ^ 63) ≤ k ∧ k < 2 ^ 63) (hz : ds.length * k.toNat ≤ sizeLine) : BR X (.BinOp a .Mult b pos) Γ (.new (List.replicate k.toNat ds).flatten) :=
  br_op op_rep ha hb fun σ H0 B H v1 v2 s g1 g2 Q q => by
    obtain ⟨l, xs, rfl, e1, k1⟩ := list_at s g1 h1
    cases g2
    refine ⟨l, k, xs, rfl, rfl, e1, hk.1, hk.2, by rw [← k1.len]; exact hz, fun t ht => ?_⟩
    exact q _ B _ (.grown s.sub (same_upd ht)) ⟨t, _, rfl, ht, s.sub.free ht, upd_same, k1.rep _⟩
theorem RpAll.atI {K : PySem.W.Frag} {B : Hp} {ds : List PyData} {xs : List V} {i : Int} {d : PyData} (g : RpAll K B ds xs) (h : L2.atI ds i = some d) : ∃ v, L2.atI xs i = some v ∧ Rp K B d v := by
  unfold L2.atI at h ⊢
  rw [← g.len]
  cases e : ixN ds.length i with
  | none => rw [e] at h; cases h
  | some j =>
    rw [e] at h
    exact g.get (i := j) h
theorem bv_ix {ds : List PyData} {i : Int} {d : PyData} (ha : BR X a Γ r1) (hb : BV X b Γ (.int i)) (h1 : listOf Γ r1 = some ds) (h2 : L2.atI ds i = some d) (hs : PlainIx b := by exact fun _ _ => rfl) : BV X (.Subscript a b pos) Γ d := by
  intro σ B H s Q q
  refine can_of (pe_ix ix_list (pe_can (e := a)) (pe_can (e := b)) hs) ?_
  refine two (k := fun v w H2 => rIxL X.K v w H2 Q) ha hb s fun v1 v2 B2 H2 o g1 g2 => ?_
  obtain ⟨l, xs, rfl, e1, k1⟩ := list_at (s.pur o) g1 h1
  cases g2
  obtain ⟨v, hv, gv⟩ := k1.atI h2
  exact ⟨l, xs, i, v, rfl, rfl, .of e1, hv, q v B2 H2 o gv⟩
theorem bv_ixT {ds : List PyData} {i : Int} {d : PyData} (ha : BV X a Γ (.tuple ds)) (hb : BV X b Γ (.int i)) (h2 : L2.atI ds i = some d) (hs : PlainIx b := by exact fun _ _ => rfl) : BV X (.Subscript a b pos) Γ d := by
  intro σ B H s Q q
  refine can_of (pe_ix ix_tup (pe_can (e := a)) (pe_can (e := b)) hs) ?_
  refine two (k := fun v w H2 => rIxT X.K v w H2 Q) ha hb s fun v1 v2 B2 H2 o g1 g2 => ?_
  cases g1 with
  | tup e1 k1 =>
    cases g2
    obtain ⟨v, hv, gv⟩ := k1.atI h2
    exact ⟨_, _, i, v, rfl, rfl, .of (o.sub _ _ e1), hv, q v B2 H2 o gv⟩
/-- a part of a slice -/
def tCanO (X : Cx) (o : Option Expr) : TO := match o with
  | none => tNoPart
  | some e => tPart (tCan X e)
theorem po_can {o : Option Expr} : PO X o (tCanO X o) := by
  cases o with
  | none => exact po_none
  | some e => exact po_some pe_can
def BO (X : Cx) (o : Option Expr) (Γ : En) (i : Option Int) : Prop := match o, i with
  | none, none => True
  | some e, some i => BV X e Γ (.int i)
  | _, _ => False
theorem bo_run {o : Option Expr} {i : Option Int} {σ : L2.St} {B H : Hp} {Q : Option Int → Hp → Prop} (h : BO X o Γ i) (s : Stt X.K B H Γ σ) (q : ∀ B' H', Pur B H B' H' → Q i H') : tCanO X o σ H Q := by
  cases o with
  | none =>
    cases i with
    | none => exact q B H (.refl s.sub)
    | some i => exact h.elim
  | some e =>
    cases i with
    | none => exact h.elim
    | some i =>
      refine h σ B H s _ fun v B1 H1 o1 g1 => ?_
      cases g1
      exact ⟨i, rfl, q B1 H1 o1⟩
def cutL {α : Type} (xs : List α) (lo hi : Option Int) : List α := (xs.drop (HT.sIx xs.length 0 lo)).take (HT.sIx xs.length xs.length hi - HT.sIx xs.length 0 lo)
theorem RpAll.cut {K : PySem.W.Frag} {B : Hp} {ds : List PyData} {xs : List V} (g : RpAll K B ds xs) (lo hi : Option Int) : RpAll K B (cutL ds lo hi) (cutV xs lo hi) := by
  unfold cutL cutV
  rw [g.len]
  exact (g.drop _).take _
theorem br_slice {lo hi : Option Expr} {i j : Option Int} {p2 : Pos} {ds : List PyData} (ha : BR X a Γ r1) (h1 : listOf Γ r1 = some ds) (hl : BO X lo Γ i) (hh : BO X hi Γ j) : BR X (.Subscript a (.Slice lo hi none p2) pos) Γ (.new (cutL ds i j)) := by
  intro σ B H s Q q
  refine can_of (pe_slice sl_list (pe_can (e := a)) (po_can (o := lo)) (po_can (o := hi))) ?_
  refine ha σ B H s _ fun v1 B1 H1 o1 g1 => ?_
  refine bo_run hl (s.pur o1) fun B2 H2 o2 => ?_
  refine bo_run hh ((s.pur o1).pur o2) fun B3 H3 o3 => ?_
  have o := (o1.trans o2).trans o3
  obtain ⟨l, xs, rfl, e1, k1⟩ := list_at (s.pur o) ((g1.on o2).on o3) h1
  refine ⟨l, xs, rfl, .of e1, fun t ht => ?_⟩
  exact q _ B3 _ (o.trans (.grown o.sub (same_upd ht))) ⟨t, _, rfl, o.heap.free ht, o.sub.free ht, upd_same, k1.cut i j⟩
/-- the script's slice -/
theorem br_sliceScr {i0 : Nat} {lo hi : Option Expr} {i j : Option Int} {p2 : Pos} {ns : List Int} (hN : X.N[i0]? = some x) (hv : Vis X.env.scope x) (h : Γ[i0]? = some (.scr ns)) (hl : BO X lo Γ i) (hh : BO X hi Γ j) (hd : (x == ("__debug__" : Str)) = false := by decide) (hcd : (x == ("__classdict__" : Str)) = false := by decide) :
    BR X (.Subscript (.Name x p) (.Slice lo hi none p2) pos) Γ (.new ((cutL ns i j).map .int)) := by
  intro σ B H s Q q
  refine can_of (pe_slice sl_list (pe_var hN hv hd hcd) (po_can (o := lo)) (po_can (o := hi))) ?_
  obtain ⟨ov, h1, l, h2, g⟩ := s.ent i0 _ h
  refine ⟨.ref l, by rw [h1, h2], ?_⟩
  refine bo_run hl s fun B2 H2 o2 => ?_
  refine bo_run hh (s.pur o2) fun B3 H3 o3 => ?_
  have o := o2.trans o3
  refine ⟨l, _, rfl, same_l (o.ex.trans o.sub) g, fun t ht => ?_⟩
  have e : cutV (ns.map V.int) i j = (cutL ns i j).map V.int := by
    unfold cutV cutL
    rw [List.length_map, List.map_take, List.map_drop]
  refine q _ B3 _ (o.trans (.grown o.sub (same_upd ht))) ⟨t, _, rfl, o.heap.free ht, o.sub.free ht, upd_same, ?_⟩
  rw [e]
  exact .of_ints _
theorem bv_lenScr {i0 : Nat} {ns : List Int} {p1 : Pos} (hg : Gl X "len") (hm : X.mg "len" = none) (hN : X.N[i0]? = some x) (hv : Vis X.env.scope x) (h : Γ[i0]? = some (.scr ns)) (hd : (x == ("__debug__" : Str)) = false := by decide) (hcd : (x == ("__classdict__" : Str)) = false := by decide)
    (he : starEach [.Name x p1] X.env = (false, eval (.Name x p1) X.env) :: starEach [] X.env := by rfl) (hpl : (backTo pos (starEach [] X.env)).any (·.1) = false := by rfl) : BV X (.Call (.Name "len" p) [.Name x p1] [] pos) Γ (.int ns.length) := by
  intro σ B H s Q q
  refine can_of (pe_callB call_len_seq hg hm PySem.boot_len (pa_cons (pe_var hN hv hd hcd) pa_nil he) (by decide) (by decide) he hpl) ?_
  obtain ⟨ov, h1, l, h2, g⟩ := s.ent i0 _ h
  refine ⟨.ref l, by rw [h1, h2], l, _, rfl, .inl (same_l s.sub g), ?_⟩
  rw [List.length_map]
  exact q _ B H (.refl s.sub) (Rp.int _)
/-- xs[::s], s worth -1 -/
theorem pe_revE {e st : Expr} {te : TE} {p3 : Pos} (he : PE X e te) (hst : PE X st (tC (.int (-1)))) (hsub : ∀ o i, subscripted (.Slice none none (some st) p3) false o i = operate [o, i] (getItem o i)) (htail : ∀ o r, letTemporaryGo e o r = letTemporaryGo e o r) : PE X (.Subscript e (.Slice none none (some st) p3) pos) (tRevL X.K te) := by
  refine ⟨fun pins s σ H Q I h => ?_⟩
  refine Subscript_ (thn (he.run pins s σ H _ I h) fun v s1 ⟨y, H1, I1, r1, q1⟩ => ?_)
  obtain ⟨a, xs, ey, hx, q⟩ := q1
  subst ey
  cases r1
  have step : PO X (some st) (tPart (tC (.int (-1)))) := po_some hst
  refine wpAny_Slice (thn (po_none.run pins s1 σ H1 (fun o H2 => o = none ∧ H2 = H1) I1 ⟨rfl, rfl⟩) fun vl s2 ⟨l, H2, I2, pl, el, e2⟩ => ?_)
  subst el e2
  refine thn (po_none.run pins s2 σ _ (fun o H3 => o = none ∧ H3 = _) I2 ⟨rfl, rfl⟩) fun vu s3 ⟨u, H3, I3, pu, eu, e3⟩ => ?_
  subst eu e3
  refine thn (step.run pins s3 σ _ (fun o H4 => o = some (-1) ∧ H4 = _) I3 ⟨-1, rfl, rfl, rfl⟩) fun vs s4 ⟨o, H4, I4, ps, eo, e4⟩ => ?_
  subst eo e4
  have I5 := I4.kept (h' := s4.heap.push { cls := .type "slice", data := .fields #[vl, vu, vs] }) (t' := s4.toks) fun b ob z => Heap.get?_push_of_some _ z
  obtain ⟨its, rr, ht, hz⟩ := I5.list hx
  have hlen := rr.length
  show wpAny (model X.prog X.w) X.A (subscriptTail e (.Slice none none (some st) p3) (.ref a) (.ref s4.heap.objs.size)) (EP X pins σ Q) X.xe _
  refine tail_any (ops := [.ref a, .ref s4.heap.objs.size]) ht.isList.typeIs (PySem.slot_list_getitem.lookup) ?_ (hsub _ _)
  refine wpAny_getItem_list_slice ht.isList (Heap.IsSliceOf.new _ vl vu vs) pl pu ps (by decide) ?_ (by rw [List.size_toArray]; omega)
  rw [PySem.W.krv_pick]
  refine ⟨.ref _, _, I5.laid (t' := s4.toks) (o := .lst xs.reverse) (fun b ob z => Heap.get?_push_of_some _ z) (Nat.le_refl _) ?_, rfl, q _ (I5.hok.fresh (Nat.le_refl _))⟩
  exact ⟨by rw [List.length_reverse]; exact hz, _, 0, rr.reverse, Heap.get?_push_size _ rfl⟩
theorem br_rev {st : Expr} {p3 : Pos} {ds : List PyData} (ha : BR X a Γ r1) (h1 : listOf Γ r1 = some ds) (hst : PE X st (tC (.int (-1)))) (hsub : ∀ o i, subscripted (.Slice none none (some st) p3) false o i = operate [o, i] (getItem o i) := by exact fun _ _ => rfl) : BR X (.Subscript a (.Slice none none (some st) p3) pos) Γ (.new ds.reverse) := by
  intro σ B H s Q q
  refine can_of (pe_revE (pe_can (e := a)) hst hsub fun _ _ => rfl) ?_
  refine ha σ B H s _ fun v1 B1 H1 o1 g1 => ?_
  obtain ⟨l, xs, rfl, e1, k1⟩ := list_at (s.pur o1) g1 h1
  refine ⟨l, xs, rfl, .of e1, fun t ht => ?_⟩
  exact q _ B1 _ (o1.trans (.grown o1.sub (same_upd ht))) ⟨t, _, rfl, o1.heap.free ht, o1.sub.free ht, upd_same, k1.rev⟩
theorem pe_neg1 {j k : Nat} {p1 p2 p3 : Pos} : PE X (.BinOp (.Constant (.int 0) j p1) .Sub (.Constant (.int 1) k p2) p3) (tC (.int (-1))) :=
  ⟨fun pins s σ H Q I h => (pe_op op_sub pe_int pe_int).run pins s σ H Q I ⟨0, 1, rfl, rfl, h⟩⟩
theorem pe_usub1 {j : Nat} {p1 p2 : Pos} : PE X (.UnaryOp .USub (.Constant (.int 1) j p1) p2) (tC (.int (-1))) :=
  ⟨fun pins s σ H Q I h => (pe_un un_neg pe_int).run pins s σ H Q I ⟨1, rfl, h⟩⟩
/-- list(range(n)), list(range(a, b)) -/
theorem br_listRg1 {n : Int} {p1 q1 : Pos} (hc : X.calm = true) (hg : Gl X "list") (hm : X.mg "list" = none) (hg' : Gl X "range") (hm' : X.mg "range" = none) (ha : BV X a Γ (.int n)) (h : RgOk 0 n) (na : starEach [a] X.env = (false, eval a X.env) :: starEach [] X.env := by rfl)
    (nr : starEach [.Call (.Name "range" p1) [a] [] q1] X.env = (false, eval (.Call (.Name "range" p1) [a] [] q1) X.env) :: starEach [] X.env := by rfl) : BR X (.Call (.Name "list" p) [.Call (.Name "range" p1) [a] [] q1] [] pos) Γ (.new ((List.range n.toNat).map fun i => .int (i : Nat))) := by
  intro σ B H s Q q
  refine can_of (pe_listRg hc hg hm (prg_1 hg' hm' (pe_can (e := a)) na) nr) ?_
  refine ha σ B H s _ fun v B1 H1 o1 g1 => ?_
  cases g1
  refine ⟨n, rfl, h, fun t ht => ?_⟩
  refine q _ B1 _ (o1.trans (.grown o1.sub (same_upd ht))) ⟨t, _, rfl, o1.heap.free ht, o1.sub.free ht, upd_same, ?_⟩
  have e : rgV 0 n = ((List.range n.toNat).map fun i : Nat => (i : Int)).map V.int := by
    unfold rgV
    rw [Int.sub_zero, List.map_map]
    refine List.map_congr_left fun i _ => ?_
    show V.int (0 + (i : Int)) = V.int (i : Int)
    rw [Int.zero_add]
  have e2 : ((List.range n.toNat).map fun i => PyData.int (i : Nat)) = ((List.range n.toNat).map fun i : Nat => (i : Int)).map PyData.int := by
    rw [List.map_map]
    rfl
  rw [e, e2]
  exact .of_ints _

/-! ### isinstance -/
def typeName : PyData → String
  | .none => "NoneType"
  | .bool _ => "bool"
  | .int _ => "int"
  | .str _ => "str"
  | .list _ => "list"
  | .tuple _ => "tuple"
  | .dict _ => "dict"
theorem rp_ty {K : PySem.W.Frag} {B H : Hp} {d : PyData} {v : V} (s : Same B H) (h : Rp K B d v) : TyX K H v (.type (typeName d)) := by
  cases h with
  | non => exact .base .non
  | bl b => exact .base (.bl b)
  | int b => exact .base (.int b)
  | str b => exact .base (.str b)
  | lst h _ => exact .base (.lst (s _ _ h))
  | tup h _ => exact .base (.tup (s _ _ h))
  | dic h => exact .base (.dK (s _ _ h))
theorem res_ty {K : PySem.W.Frag} {σ : L2.St} {H0 B H : Hp} {r : Res} {v : V} {d : PyData} (s : Stt K B H Γ σ) (g : ResR K H0 B H Γ σ r v) (hv : valOf Γ r = some d) : TyX K H v (.type (typeName d)) := by
  have key : ∀ ds, listOf Γ r = some ds → d = .list ds → TyX K H v (.type (typeName d)) := fun ds el ed => by
    obtain ⟨p, xs, rfl, h1, _⟩ := list_at s g el
    subst ed
    exact .base (.lst h1)
  cases r with
  | dat d' =>
    have e' : d' = d := Option.some.inj hv
    subst e'
    exact rp_ty s.sub g
  | new ds => exact key ds rfl (Option.some.inj hv).symm
  | newD ds => cases hv
  | pairP i b => cases hv
  | pair i b => cases hv
  | peek i =>
    have e2 : (listOf Γ (.peek i)).map PyData.list = some d := hv
    cases q : listOf Γ (.peek i) with
    | none => rw [q] at e2; cases e2
    | some ds =>
      rw [q] at e2
      exact key ds q (Option.some.inj e2).symm
def isA (T : String) (d : PyData) : Bool := (kitB (typeName d) T).getD false
theorem kit_isA {K : PySem.W.Frag} {T : String} (d : PyData) (h : ∀ n ∈ ["NoneType", "bool", "int", "str", "list", "tuple", "dict"], (kitB n T).isSome = true) : PySem.W.kitOne K (.type (typeName d)) (.type T) = some (isA T d) := by
  have q : (kitB (typeName d) T).isSome = true := h _ (by cases d <;> simp [typeName])
  refine kit_ty ?_
  unfold isA
  cases e : kitB (typeName d) T with
  | none => rw [e] at q; cases q
  | some b => rfl
theorem bv_isi {T : Str} {tn : String} {d : PyData} {p1 : Pos} (hg : Gl X "isinstance") (hm : X.mg "isinstance" = none) (hgT : Gl X T) (hmT : X.mg T = none) (hb : bootBuiltins T = some (.type tn)) (ha : BR X a Γ r1) (hv : valOf Γ r1 = some d)
    (hk : ∀ n ∈ ["NoneType", "bool", "int", "str", "list", "tuple", "dict"], (kitB n tn).isSome = true) (hn : T ≠ "__name__" := by decide) (hdb : (T == ("__debug__" : Str)) = false := by decide)
    (he : starEach [a, .Name T p1] X.env = (false, eval a X.env) :: starEach [.Name T p1] X.env := by rfl) (he2 : starEach [.Name T p1] X.env = (false, eval (.Name T p1) X.env) :: starEach [] X.env := by rfl) (hpl : (backTo pos (starEach [.Name T p1] X.env)).any (·.1) = false := by rfl) :
    BV X (.Call (.Name "isinstance" p) [a, .Name T p1] [] pos) Γ (.bool (isA tn d)) := by
  intro σ B H s Q q
  refine can_of (pe_callB call_isi hg hm (by decide +kernel) (pa_cons (pe_can (e := a)) (pa_cons (pe_bltn (v := .ty tn) hgT hmT hb rfl hn hdb) pa_nil he2) he) (by decide) (by decide) he hpl) ?_
  refine ha σ B H s _ fun v B1 H1 o1 g1 => ?_
  exact ⟨v, .ty tn, _, _, _, rfl, .ty tn, res_ty (s.pur o1) g1 hv, kit_isA d hk, q _ B1 H1 o1 (Rp.bl _)⟩
end
end Bv
set_option Elab.async false
set_option autoImplicit false
set_option linter.all false
set_option maxRecDepth 100000
set_option maxHeartbeats 2000000
/-! Bv5: targets, what is walked, comprehensions. -/
namespace Bv
open PySem PySem.Spec PyProof.Rows L2

/-! ### slots set -/
def setAll : L2.St → List Nat → List V → L2.St
  | σ, i :: is, v :: vs => setAll (σ.set i (some v)) is vs
  | σ, _, _ => σ
def setDat : En → List Nat → List PyData → En
  | Γ, i :: is, d :: ds => setDat (Γ.set i (.dat d)) is ds
  | Γ, _, _ => Γ
def wipeE (Γ : En) : List Nat → En
  | [] => Γ
  | v :: vs => (wipeE Γ vs).set v .no
section
variable {K : PySem.W.Frag} {B H : Hp} {Γ : En} {σ : L2.St}
theorem ownAt_set2 {i j : Nat} {t : Ent} {ov : Option V} {a : Addr} (ht : isOwn (some t) → ov ≠ some (.ref a)) (h : ownAt (Γ.set i t) (σ.set i ov) j a) (hl : Γ.length = σ.length) : ownAt Γ σ j a ∧ (i ≠ j ∨ σ.length ≤ i) := by
  obtain ⟨h1, h2⟩ := h
  by_cases hi : i < σ.length
  · rcases set_get h1 with ⟨rfl, e⟩ | ⟨ne, h1⟩
    · rw [List.getElem?_set_self (by omega)] at h2
      exact absurd e.symm (ht h2)
    · rw [List.getElem?_set_ne ne] at h2
      exact ⟨⟨h1, h2⟩, .inl ne⟩
  · rw [List.set_eq_of_length_le (by omega)] at h1 h2
    exact ⟨⟨h1, h2⟩, .inr (by omega)⟩
/-- a slot stored; an owned thing must be new to the environment -/
theorem Stt.put {i : Nat} {t : Ent} {v : V} (s : Stt K B H Γ σ) (g : EntR K B H t (some v)) (n : isOwn (some t) → ∀ a, v = .ref a → ¬ Owned Γ σ a) : Stt K B H (Γ.set i t) (σ.set i (some v)) := by
  refine ⟨by rw [List.length_set, List.length_set]; exact s.len, s.sub, fun j u hj => ?_, fun j k a h1 h2 => ?_⟩
  · by_cases hi : i < Γ.length
    · rcases set_get hj with ⟨rfl, rfl⟩ | ⟨ne, hj⟩
      · exact ⟨some v, by rw [List.getElem?_set_self (by rw [← s.len]; exact hi)], g⟩
      · rw [List.getElem?_set_ne ne]
        exact s.ent j u hj
    · rw [List.set_eq_of_length_le (by omega)] at hj
      rw [List.set_eq_of_length_le (by rw [← s.len]; omega)]
      exact s.ent j u hj
  · by_cases hi : i < Γ.length
    · have key : ∀ {m : Nat}, ownAt (Γ.set i t) (σ.set i (some v)) m a → (i = m ∧ isOwn (some t) ∧ v = .ref a) ∨ ownAt Γ σ m a := fun {m} ⟨x1, x2⟩ => by
        rcases set_get x1 with ⟨rfl, e⟩ | ⟨ne, x1⟩
        · rw [List.getElem?_set_self hi] at x2
          exact .inl ⟨rfl, x2, (Option.some.inj e).symm⟩
        · rw [List.getElem?_set_ne ne] at x2
          exact .inr ⟨x1, x2⟩
      rcases key h1 with ⟨e1, o1, v1⟩ | k1
      · rcases key h2 with ⟨e2, _, _⟩ | k2
        · omega
        · exact absurd ⟨k, k2⟩ (n o1 a v1)
      · rcases key h2 with ⟨e2, o2, v2⟩ | k2
        · exact absurd ⟨j, k1⟩ (n o2 a v2)
        · exact s.sep j k a k1 k2
    · have back : ∀ {m : Nat}, ownAt (Γ.set i t) (σ.set i (some v)) m a → ownAt Γ σ m a := fun {m} ⟨x1, x2⟩ => by
        rw [List.set_eq_of_length_le (by omega)] at x2
        rw [List.set_eq_of_length_le (by rw [← s.len]; omega)] at x1
        exact ⟨x1, x2⟩
      exact s.sep j k a (back h1) (back h2)
theorem Stt.putAll : ∀ {is : List Nat} {ds : List PyData} {vs : List V} {Γ : En} {σ : L2.St}, Stt K B H Γ σ → RpAll K B ds vs → Stt K B H (setDat Γ is ds) (setAll σ is vs)
  | [], _, _, _, _, s, _ => s
  | _ :: _, [], _, _, _, s, g => by cases g; exact s
  | i :: is, d :: ds, _, _, _, s, g => by
    cases g with
    | cons h t => exact Stt.putAll (is := is) (s.put (t := .dat d) ⟨_, rfl, h⟩ fun z => False.elim z) t
theorem Stt.wiped : ∀ (js : List Nat), Stt K B H Γ σ → Stt K B H (wipeE Γ js) (wipe σ js)
  | [], s => s
  | j :: js, s => by
    have t := Stt.wiped js s
    show Stt K B H ((wipeE Γ js).set j .no) ((wipe σ js).set j none)
    refine ⟨by rw [List.length_set, List.length_set]; exact t.len, t.sub, fun k u hk => ?_, fun k l a h1 h2 => ?_⟩
    · by_cases hj : j < (wipeE Γ js).length
      · rcases set_get hk with ⟨rfl, rfl⟩ | ⟨ne, hk⟩
        · exact ⟨none, by rw [List.getElem?_set_self (by rw [← t.len]; exact hj)], trivial⟩
        · rw [List.getElem?_set_ne ne]
          exact t.ent k u hk
      · rw [List.set_eq_of_length_le (by omega)] at hk
        rw [List.set_eq_of_length_le (by rw [← t.len]; omega)]
        exact t.ent k u hk
    · have back := fun {m : Nat} (x : ownAt ((wipeE Γ js).set j .no) ((wipe σ js).set j none) m a) => (ownAt_set2 (t := .no) (fun z => False.elim z) x t.len).1
      exact t.sep k l a (back h1) (back h2)
theorem wipe_get (σ : L2.St) : ∀ (js : List Nat) (k : Nat), (wipe σ js)[k]? = if k ∈ js then (if k < σ.length then some none else none) else σ[k]?
  | [], k => by simp [wipe]
  | j :: js, k => by
    show ((wipe σ js).set j none)[k]? = _
    by_cases e : j = k
    · subst e
      by_cases hl : j < σ.length
      · rw [List.getElem?_set_self (by rw [wipe_length]; exact hl)]
        simp [hl]
      · rw [List.getElem?_eq_none (by rw [List.length_set, wipe_length]; omega)]
        simp [hl]
    · rw [List.getElem?_set_ne e, wipe_get σ js k]
      simp [Ne.symm e]
theorem setAll_len : ∀ (is : List Nat) (vs : List V) (σ : L2.St), (setAll σ is vs).length = σ.length
  | [], _, _ => rfl
  | _ :: _, [], _ => rfl
  | i :: is, v :: vs, σ => by
    show (setAll (σ.set i (some v)) is vs).length = _
    rw [setAll_len is vs, List.length_set]
theorem setAll_get : ∀ (is : List Nat) (vs : List V) (σ : L2.St) (k : Nat), k ∉ is → (setAll σ is vs)[k]? = σ[k]?
  | [], _, _, _, _ => rfl
  | _ :: _, [], _, _, _ => rfl
  | i :: is, v :: vs, σ, k, h => by
    show (setAll (σ.set i (some v)) is vs)[k]? = _
    rw [setAll_get is vs _ k (fun z => h (List.mem_cons_of_mem _ z)), List.getElem?_set_ne (fun z => h (by rw [z]; exact List.mem_cons_self))]
theorem wipe_set {is js : List Nat} {vs : List V} (h : ∀ i ∈ is, i ∈ js) : wipe (setAll (wipe σ js) is vs) js = wipe σ js := by
  apply List.ext_getElem?
  intro k
  rw [wipe_get, wipe_get, setAll_len, wipe_length]
  by_cases hk : k ∈ js
  · rw [if_pos hk, if_pos hk]
  · rw [if_neg hk, if_neg hk, setAll_get _ _ _ _ (fun z => hk (h k z)), wipe_get, if_neg hk]
end

/-! ### targets -/
def tCanG (X : Cx) (tg : Expr) : TG := fun v σ H Q => ∀ pins s u, Inv X pins σ H s → RelV v u → wpAny (model X.prog X.w) X.A (assign tg X.env u) (fun _ s' => ∃ σ' H', Inv X pins σ' H' s' ∧ Q σ' H') X.xe s
def tCanTs (X : Cx) (ifs : List Expr) : TT := fun σ H Q => ∀ pins s, Inv X pins σ H s → wpAny (model X.prog X.w) X.A (forIn ifs true fun c r => if r = true then do let ok ← isTrue c X.env (eval c X.env); pure (ForInStep.yield ok) else pure (ForInStep.yield r)) (TP X pins σ Q) X.xe s
theorem pg_can {X : Cx} {tg : Expr} : PG X tg (tCanG X tg) := ⟨fun pins s σ H v u Q I r h => h pins s u I r⟩
theorem pts_can {X : Cx} {ifs : List Expr} : PTs X ifs (tCanTs X ifs) := ⟨fun pins s σ H Q I h => h pins s I⟩
/-- the target, given d, stores ds at the slots is -/
def BG (X : Cx) (tg : Expr) (is : List Nat) (d : PyData) (ds : List PyData) : Prop := ∀ σ B H v, Same B H → Rp X.K B d v → ∀ Q : L2.St → Hp → Prop, (∀ vs, RpAll X.K B ds vs → Q (setAll σ is vs) H) → tCanG X tg v σ H Q
def gNames : List Nat → TGs
  | [] => gNil
  | i :: is => gCons (gName i) (gNames is)
theorem gNames_run : ∀ {is : List Nat} {vs : List V} {σ : L2.St} {H : Hp} {Q : L2.St → Hp → Prop}, vs.length = is.length → Q (setAll σ is vs) H → gNames is vs σ H Q
  | [], [], _, _, _, _, q => ⟨rfl, q⟩
  | i :: is, v :: vs, σ, H, Q, h, q => ⟨v, vs, rfl, gNames_run (is := is) (by simpa using h) q⟩
  | [], _ :: _, _, _, _, h, _ => by simp at h
  | _ :: _, [], _, _, _, h, _ => by simp at h
section
variable {X : Cx} {pos : Pos} {x : Str}
theorem bg_name {i : Nat} {d : PyData} (h : PG X (.Name x pos) (gName i)) : BG X (.Name x pos) [i] d [d] := fun σ B H v s g Q q pins st u I r => h.run pins st σ H v u Q I r (q [v] (.cons g .nil))
theorem bg_tup {es : List Expr} {k : Nat} {is : List Nat} {ds : List PyData} (hc : X.calm = true) (h : PGs X es (gNames is)) (hl : ds.length = is.length) (hn : (assignEach es X.env).length = is.length := by rfl) (hst : (assignEach es X.env).findIdx? (·.1) = none := by rfl) : BG X (.Tuple es k pos) is (.tuple ds) ds := by
  intro σ B H v s g Q q pins st u I r
  refine (pg_tup hc h hn hst).run pins st σ H v u Q I r ?_
  cases g with
  | tup h1 g1 => exact ⟨_, _, rfl, .of (s _ _ h1), by rw [← g1.len]; exact hl, gNames_run (by rw [← g1.len]; exact hl) (q _ g1)⟩
theorem bg_unl {es : List Expr} {k : Nat} {is : List Nat} {ds : List PyData} (hc : X.calm = true) (h : PGs X es (gNames is)) (hl : ds.length = is.length) (hn : (assignEach es X.env).length = is.length := by rfl) (hst : (assignEach es X.env).findIdx? (·.1) = none := by rfl) : BG X (.Tuple es k pos) is (.list ds) ds := by
  intro σ B H v s g Q q pins st u I r
  refine (pg_lst hc h hn hst).run pins st σ H v u Q I r ?_
  cases g with
  | lst h1 g1 => exact ⟨_, _, rfl, .of (s _ _ h1), by rw [← g1.len]; exact hl, gNames_run (by rw [← g1.len]; exact hl) (q _ g1)⟩
theorem pgs2 {i j : Nat} {a b : Expr} (h1 : PG X a (gName i)) (h2 : PG X b (gName j)) (hs : (assignEach [a, b] X.env).map (·.2) = assign a X.env :: (assignEach [b] X.env).map (·.2) := by rfl) (hs2 : (assignEach [b] X.env).map (·.2) = assign b X.env :: (assignEach [] X.env).map (·.2) := by rfl) : PGs X [a, b] (gNames [i, j]) := pgs_cons h1 (pgs_cons h2 pgs_nil hs2) hs
theorem pgs3 {i j k : Nat} {a b c : Expr} (h1 : PG X a (gName i)) (h2 : PG X b (gName j)) (h3 : PG X c (gName k)) (hs : (assignEach [a, b, c] X.env).map (·.2) = assign a X.env :: (assignEach [b, c] X.env).map (·.2) := by rfl) (hs2 : (assignEach [b, c] X.env).map (·.2) = assign b X.env :: (assignEach [c] X.env).map (·.2) := by rfl)
    (hs3 : (assignEach [c] X.env).map (·.2) = assign c X.env :: (assignEach [] X.env).map (·.2) := by rfl) : PGs X [a, b, c] (gNames [i, j, k]) := pgs_cons h1 (pgs_cons h2 (pgs_cons h3 pgs_nil hs3) hs2) hs
end

/-! ### what is walked -/
/-- what the walk of iter gives, told of the reading wi of its making -/
def Gives (X : Cx) (wi : TI) (Γ : En) (items : List PyData) : Prop := ∀ σ B H, Stt X.K B H Γ σ → ∀ R : It → Hp → Prop,
  (∀ J B' H' G Y, Pur B H B' H' → Walk J items.length G Y → (∀ H1, Same B' H1 → G H1) →
    (∀ i x H1 H2 B1, i < items.length → Same B' B1 → Same B1 H1 → Y i H1 x H2 → ∃ d B2, items[i]? = some d ∧ Pur B1 H1 B2 H2 ∧ Rp X.K B2 d x) → R J H') → wi σ H R
section
variable {X : Cx} {Γ : En} {tg a b : Expr} {pos : Pos} {x : Str} {p : Pos}
theorem gv_list {ds : List PyData} (h : BV X a Γ (.list ds)) : Gives X (iList X.K (tCan X a)) Γ ds := by
  intro σ B H s R q
  refine h σ B H s _ fun v B1 H1 o1 g1 => ?_
  cases g1 with
  | @lst l xs _ h1 g =>
    have e := g.len
    refine ⟨l, rfl, ⟨_, .of (o1.sub _ _ h1)⟩, ?_⟩
    refine q (Itl X.K l) B1 H1 (fun H2 => SqL X.K H2 l xs) (YAt xs) o1 (by rw [e]; exact walk_list) (fun H2 s2 => .of (s2 _ _ h1)) fun i y H2 H3 B2 hi s1 s2 hy => ?_
    obtain ⟨e3, hx⟩ := hy
    subst e3
    obtain ⟨d, hd, gd⟩ := g.got hx
    exact ⟨d, B2, hd, .refl s2, gd.up s1⟩
theorem gv_range1 {n : Int} {hs : starEach [a] X.env = (false, eval a X.env) :: starEach [] X.env} (h : BV X a Γ (.int n)) (hn : -(2 ^ 62) ≤ n ∧ n < 2 ^ 62) : Gives X (iRng1 (tCons (tCan X a) tNil)) Γ ((List.range n.toNat).map fun i => .int (i : Nat)) := by
  intro σ B H s R q
  refine h σ B H s _ fun v B1 H1 o1 g1 => ?_
  cases g1
  refine ⟨n, rfl, hn.1, hn.2, ?_⟩
  have e : ((List.range n.toNat).map fun i => PyData.int (i : Nat)).length = n.toNat := by rw [List.length_map, List.length_range]
  refine q (Itr 0 n.toNat) B1 H1 (fun _ => True) (YFn fun i => .int (0 + i)) o1 (by rw [e]; exact walk_range) (fun _ _ => trivial) fun i y H2 H3 B2 hi s1 s2 hy => ?_
  obtain ⟨e3, e4⟩ := hy
  subst e3 e4
  rw [e] at hi
  refine ⟨.int (i : Nat), B2, by rw [List.getElem?_map, List.getElem?_range hi]; rfl, .refl s2, ?_⟩
  show Rp X.K B2 (.int (i : Nat)) (.int (0 + (i : Nat)))
  rw [Int.zero_add]
  exact .int _
theorem gv_range2 {lo n : Int} (h : BV X a Γ (.int lo)) (h2 : BV X b Γ (.int n)) (hn : -(2 ^ 62) ≤ lo ∧ lo < 2 ^ 62 ∧ -(2 ^ 62) ≤ n ∧ n < 2 ^ 62) : Gives X (iRng2 (tCons (tCan X a) (tCons (tCan X b) tNil))) Γ ((List.range (n - lo).toNat).map fun i => .int (lo + (i : Nat))) := by
  intro σ B H s R q
  refine two (k := fun v w H2 => ∃ i j : Int, [v, w] = [.int i, .int j] ∧ (-(2 ^ 62) ≤ i ∧ i < 2 ^ 62 ∧ -(2 ^ 62) ≤ j ∧ j < 2 ^ 62) ∧ R (Itr i (j - i).toNat) H2) h h2 s fun v w B1 H1 o1 g1 g2 => ?_
  cases g1
  cases g2
  refine ⟨lo, n, rfl, hn, ?_⟩
  have e : ((List.range (n - lo).toNat).map fun i => PyData.int (lo + (i : Nat))).length = (n - lo).toNat := by rw [List.length_map, List.length_range]
  refine q (Itr lo (n - lo).toNat) B1 H1 (fun _ => True) (YFn fun i => .int (lo + i)) o1 (by rw [e]; exact walk_range) (fun _ _ => trivial) fun i y H2 H3 B2 hi s1 s2 hy => ?_
  obtain ⟨e3, e4⟩ := hy
  subst e3 e4
  rw [e] at hi
  exact ⟨.int (lo + (i : Nat)), B2, by rw [List.getElem?_map, List.getElem?_range hi]; rfl, .refl s2, .int _⟩
theorem gv_zip {ds fs : List PyData} (h : BV X a Γ (.list ds)) (h2 : BV X b Γ (.list fs)) : Gives X (iZip X.K (tCons (tCan X a) (tCons (tCan X b) tNil))) Γ ((ds.zip fs).map fun q => .tuple [q.1, q.2]) := by
  intro σ B H s R q
  refine two (k := fun v w H2 => ∃ l m xs ys, [v, w] = [.ref l, .ref m] ∧ SqL X.K H2 l xs ∧ SqL X.K H2 m ys ∧ R (Itz X.K l m) H2) h h2 s fun v w B1 H1 o1 g1 g2 => ?_
  cases g1 with
  | @lst l xs _ h1 g =>
    cases g2 with
    | @lst m ys _ h3 g' =>
      refine ⟨l, m, xs, ys, rfl, .of (o1.sub _ _ h1), .of (o1.sub _ _ h3), ?_⟩
      have e : ((ds.zip fs).map fun q => PyData.tuple [q.1, q.2]).length = min xs.length ys.length := by rw [List.length_map, List.length_zip, g.len, g'.len]
      refine q (Itz X.K l m) B1 H1 (fun H2 => SqL X.K H2 l xs ∧ SqL X.K H2 m ys) (YPair (fun i => xs[i]?) (fun i => ys[i]?)) o1 (walk_zip e) (fun H2 s2 => ⟨.of (s2 _ _ h1), .of (s2 _ _ h3)⟩) fun i y H2 H3 B2 hi s1 s2 hy => ?_
      obtain ⟨T, u, w, e1, hT, e2, hu, hw⟩ := hy
      subst e1 e2
      obtain ⟨d, hd, gd⟩ := g.got hu
      obtain ⟨f, hf, gf⟩ := g'.got hw
      have nB : B2 T = none := s2.free hT
      refine ⟨.tuple [d, f], upd B2 T (.tup [u, w]), ?_, .laid s2 hT, .tup upd_same (.cons (gd.up (s1.trans (same_upd nB))) (.cons (gf.up (s1.trans (same_upd nB))) .nil))⟩
      rw [List.getElem?_map, List.getElem?_zip_eq_some.mpr (⟨hd, hf⟩ : ds[i]? = some (d, f).1 ∧ fs[i]? = some (d, f).2)]
      rfl
theorem gv_enum {ds : List PyData} (h : BV X a Γ (.list ds)) : Gives X (iEnum X.K (tCons (tCan X a) tNil)) Γ ((List.range ds.length).map fun i => .tuple [.int (i : Nat), (ds[i]?).getD .none]) := by
  intro σ B H s R q
  refine h σ B H s _ fun v B1 H1 o1 g1 => ?_
  cases g1 with
  | @lst l xs _ h1 g =>
    refine ⟨l, xs, rfl, .of (o1.sub _ _ h1), ?_⟩
    have e : ((List.range ds.length).map fun i => PyData.tuple [.int (i : Nat), (ds[i]?).getD .none]).length = xs.length := by rw [List.length_map, List.length_range, g.len]
    refine q (Ite X.K l) B1 H1 (fun H2 => SqL X.K H2 l xs) (YPair (fun i => some (.int (i : Nat))) (fun i => xs[i]?)) o1 (by rw [e]; exact walk_enum) (fun H2 s2 => .of (s2 _ _ h1)) fun i y H2 H3 B2 hi s1 s2 hy => ?_
    obtain ⟨T, u, w, e1, hT, e2, hu, hw⟩ := hy
    subst e1 e2
    have eu : u = .int (i : Nat) := (Option.some.inj hu).symm
    subst eu
    obtain ⟨d, hd, gd⟩ := g.got hw
    have nB : B2 T = none := s2.free hT
    have hi2 : i < ds.length := by rw [e, ← g.len] at hi; exact hi
    refine ⟨.tuple [.int (i : Nat), d], upd B2 T (.tup [.int (i : Nat), w]), ?_, .laid s2 hT, .tup upd_same (.cons (.int _) (.cons (gd.up (s1.trans (same_upd nB))) .nil))⟩
    rw [List.getElem?_map, List.getElem?_range hi2]
    simp [hd]
end

/-! ### comprehensions -/
def BlkX (X : Cx) (scope : Scope) (Y : Cx) : Prop := ∃ s H C cl fp, Y = X.blk s H scope (compEnvC scope cl C X.env) fp
def tAllG (X : Cx) (scope : Scope) (tg : Expr) : TG := fun v σ H Q => ∀ Y, BlkX X scope Y → tCanG Y tg v σ H Q
def tAllTs (X : Cx) (scope : Scope) (ifs : List Expr) : TT := fun σ H Q => ∀ Y, BlkX X scope Y → tCanTs Y ifs σ H Q
def tAllE (X : Cx) (scope : Scope) (e : Expr) : TE := fun σ H Q => ∀ Y, BlkX X scope Y → tCan Y e σ H Q
def BTs (X : Cx) (ifs : List Expr) (Γ : En) (b : Bool) : Prop := ∀ σ B H, Stt X.K B H Γ σ → ∀ Q : Bool → Hp → Prop, (∀ H', Same H H' → Q b H') → tCanTs X ifs σ H Q
theorem bts_nil {X : Cx} {Γ : En} : BTs X [] Γ true := fun σ B H s Q q pins st I => pts_nil.run pins st σ H Q I (q H fun _ _ h => h)
theorem bts_one {X : Cx} {Γ : En} {c : Expr} {b : Bool} (h : BT X c Γ b) : BTs X [c] Γ b := fun σ B H s Q q pins st I => (pts_one (pt_can (e := c))).run pins st σ H Q I (h σ B H s Q q)
theorem lc_read {X : Cx} {Γ : En} {α : Type} {elt tg : Expr} {ifs : List Expr} {scope : Scope} {wi : TI} {L : List α} {enc : α → PyData} {is vs : List Nat} {sp : α → List PyData} {keep : α → Bool} {f : α → PyData} (src : Gives X wi Γ (L.map enc)) (his : ∀ i ∈ is, i ∈ vs)
    (ht : ∀ x ∈ L, ∀ Y, BlkX X scope Y → BG Y tg is (enc x) (sp x) ∧ BTs Y ifs (setDat (wipeE Γ vs) is (sp x)) (keep x) ∧ (keep x = true → BV Y elt (setDat (wipeE Γ vs) is (sp x)) (f x))) (hz : L.length ≤ sizeLine)
    {σ : L2.St} {B H : Hp} (s : Stt X.K B H Γ σ) {Q : VK} (q : ∀ v B' H', Pur B H B' H' → ResR X.K H B' H' Γ σ (.new ((L.filter keep).map f)) v → Q v H') : tLc wi (tAllG X scope tg) (tAllTs X scope ifs) (tAllE X scope elt) vs σ H Q := by
  refine src σ B H s _ fun J B1 H1 G Y o1 w hG hY => ?_
  intro D hD
  have hBD : B1 D = none := o1.sub.free hD
  rw [List.length_map] at w hY
  refine lc_it w (fun i H' => ∃ Bi xs, Pur B1 H1 Bi H' ∧ Bi D = none ∧ H' D = some (.lst xs) ∧ RpAll X.K Bi (((L.take i).filter keep).map f) xs) ?_ ?_ ?_ ?_
  · exact ⟨B1, [], .grown o1.sub (same_upd hD), hBD, upd_same, .nil⟩
  · intro i H' hi ⟨Bi, xs, o, _⟩
    exact hG H' (o.ex.trans o.sub)
  · intro i y H2 H3 hi ⟨Bi, xs, o, bD, hh, g⟩ hy
    obtain ⟨d, B2, hd, o2, gd⟩ := hY i y H2 H3 Bi hi o.ex o.sub hy
    rw [List.getElem?_map, List.getElem?_eq_getElem hi] at hd
    have ed : enc L[i] = d := Option.some.inj hd
    subst ed
    have oo := o.trans o2
    have hDn : H2 D ≠ none := by rw [hh]; exact (fun z => nomatch z)
    have b2D : B2 D = none := o2.new D hDn bD
    have h3D : H3 D = some (.lst xs) := o2.heap _ _ hh
    have st := (s.pur (o1.trans oo)).wiped vs
    intro Z hZ
    obtain ⟨k1, k2, k3⟩ := ht L[i] (List.getElem_mem hi) Z hZ
    have eK : Z.K = X.K := by obtain ⟨_, _, _, _, _, rfl⟩ := hZ; rfl
    refine k1 (wipe σ vs) B2 H3 y o2.sub (by rw [eK]; exact gd) _ fun ws gw => ?_
    rw [eK] at gw
    refine ⟨wipe_set his, ?_⟩
    have st2 := Stt.putAll (is := is) st gw
    intro Z2 hZ2
    obtain ⟨_, k2, _⟩ := ht L[i] (List.getElem_mem hi) Z2 hZ2
    have eK2 : Z2.K = X.K := by obtain ⟨_, _, _, _, _, rfl⟩ := hZ2; rfl
    refine k2 _ B2 H3 (by rw [eK2]; exact st2) _ fun H4 e4 => ?_
    have o4 : Pur B2 H3 B2 H4 := .grown o2.sub e4
    have et : (L.take (i + 1)).filter keep = (L.take i).filter keep ++ (if keep L[i] then [L[i]] else []) := by
      rw [List.take_add_one, List.getElem?_eq_getElem hi, List.filter_append]
      show _ ++ [L[i]].filter keep = _
      rw [List.filter_cons, List.filter_nil]
    cases hk : keep L[i] with
    | false =>
      show ∃ Bi xs, _
      rw [et, hk]
      refine ⟨B2, xs, oo.trans o4, b2D, e4 _ _ h3D, ?_⟩
      rw [if_neg Bool.false_ne_true, List.append_nil]
      exact g.up o2.ex
    | true =>
      show tAllE X scope elt _ H4 _
      intro Z3 hZ3
      obtain ⟨_, _, k3⟩ := ht L[i] (List.getElem_mem hi) Z3 hZ3
      have eK3 : Z3.K = X.K := by obtain ⟨_, _, _, _, _, rfl⟩ := hZ3; rfl
      refine k3 hk _ B2 H4 (by rw [eK3]; exact st2.pur o4) _ fun v B5 H5 o5 g5 => ?_
      have g5' : Rp X.K B5 (f L[i]) v := by rw [← eK3]; exact g5
      have h4D : H4 D = some (.lst xs) := e4 _ _ h3D
      have h5D : H5 D = some (.lst xs) := o5.heap _ _ h4D
      have b5D : B5 D = none := o5.new D (by rw [h4D]; exact (fun z => nomatch z)) b2D
      refine ⟨xs, h5D, ?_, ?_⟩
      · have e1 := g.len
        rw [List.length_map] at e1
        have e2 := List.length_filter_le keep (L.take i)
        rw [List.length_take] at e2
        omega
      · have o6 := (oo.trans o4).trans o5
        have up : ∀ {Z : Hp}, Z D = none → Same Z H5 → Same Z (upd H5 D (.lst (xs ++ [v]))) := fun {Z} n e a ob h => by
          have : a ≠ D := fun z => by subst z; rw [n] at h; cases h
          rw [upd_ne this]
          exact e a ob h
        refine ⟨B5, xs ++ [v], ⟨up hD o6.heap, o6.ex, up b5D o6.sub, o6.new⟩, b5D, upd_same, ?_⟩
        rw [et, hk, if_pos rfl, List.map_append]
        exact ((g.up o2.ex).up o5.ex).app (.cons g5' .nil)
  · intro H2 ⟨Bi, xs, o, bD, hh, g⟩
    rw [List.take_of_length_le (Nat.le_refl _)] at g
    exact q _ Bi H2 (o1.trans o) ⟨D, xs, rfl, o1.heap.free hD, bD, hh, g⟩
section
variable {X : Cx} {Γ : En} {α : Type} {elt tg iter : Expr} {ifs : List Expr} {scope : Scope} {own : List (Str × Nat)} {pos : Pos} {wi : TI} {L : List α} {enc : α → PyData} {is : List Nat} {sp : α → List PyData} {keep : α → Bool} {f : α → PyData}
theorem blk_g (s : Shared) (H : Hp) (C : Addr) (cl : List (Str × Addr)) (fp : List Addr) : PG (X.blk s H scope (compEnvC scope cl C X.env) fp) tg (tAllG X scope tg) := ⟨fun pins st σ H v u Q I r h => h _ ⟨_, _, _, _, _, rfl⟩ pins st u I r⟩
theorem blk_t (s : Shared) (H : Hp) (C : Addr) (cl : List (Str × Addr)) (fp : List Addr) : PTs (X.blk s H scope (compEnvC scope cl C X.env) fp) ifs (tAllTs X scope ifs) := ⟨fun pins st σ H Q I h => h _ ⟨_, _, _, _, _, rfl⟩ pins st I⟩
theorem blk_e (s : Shared) (H : Hp) (C : Addr) (cl : List (Str × Addr)) (fp : List Addr) : PE (X.blk s H scope (compEnvC scope cl C X.env) fp) elt (tAllE X scope elt) := ⟨fun pins st σ H Q I h => h _ ⟨_, _, _, _, _, rfl⟩ pins st I⟩
theorem br_lc (hc : X.calm = true) (hN : X.N.Nodup) (hi : PI X tg iter wi) (src : Gives X wi Γ (L.map enc)) (ok : BlkOk X.N X.env.scope scope own) (his : ∀ i ∈ is, i ∈ own.map (·.2))
    (ht : ∀ x ∈ L, ∀ Y, BlkX X scope Y → BG Y tg is (enc x) (sp x) ∧ BTs Y ifs (setDat (wipeE Γ (own.map (·.2))) is (sp x)) (keep x) ∧ (keep x = true → BV Y elt (setDat (wipeE Γ (own.map (·.2))) is (sp x)) (f x))) (hz : L.length ≤ sizeLine)
    (hs : ∀ x, foldedSetIterable iter X.env x = pure x := by intro _; rfl) : BR X (.ListComp elt [⟨tg, iter, ifs, 0⟩] scope pos) Γ (.new ((L.filter keep).map f)) :=
  fun σ B H s Q q => can_of (pe_lc hc hN hi ok blk_g blk_t blk_e hs) (lc_read src his ht hz s q)
end
end Bv
set_option Elab.async false
set_option autoImplicit false
set_option linter.all false
set_option maxRecDepth 100000
set_option maxHeartbeats 2000000
/-! Bv6: statements, defs. -/
namespace Bv
open PySem PySem.Spec PyProof.Rows L2

structure OutS (K : PySem.W.Frag) (F : List Nat) (σ : L2.St) (Γ : En) (B H : Hp) (σ' : L2.St) (Γ' : En) (B' H' : Hp) : Prop where
  step : Step (Owned Γ σ) B H B' H'
  own : ∀ i a, ownAt Γ' σ' i a → ownAt Γ σ i a ∨ H a = none
  fix : ∀ i ∈ F, σ'[i]? = σ[i]?
  st : Stt K B' H' Γ' σ'
section
variable {K : PySem.W.Frag} {F : List Nat} {σ σ1 σ2 : L2.St} {Γ Γ1 Γ2 : En} {B H B1 H1 B2 H2 : Hp}
theorem OutS.refl (s : Stt K B H Γ σ) : OutS K F σ Γ B H σ Γ B H := ⟨.refl s.sub, fun _ _ h => .inl h, fun _ _ => rfl, s⟩
theorem OutS.trans (a : OutS K F σ Γ B H σ1 Γ1 B1 H1) (b : OutS K F σ1 Γ1 B1 H1 σ2 Γ2 B2 H2) : OutS K F σ Γ B H σ2 Γ2 B2 H2 where
  step := a.step.trans b.step fun x ⟨i, h⟩ => (a.own i x h).elim (fun z => .inl ⟨i, z⟩) .inr
  own := fun i x h => (b.own i x h).elim (fun z => a.own i x z) fun z => .inr (a.step.dom x z)
  fix := fun i hi => (b.fix i hi).trans (a.fix i hi)
  st := b.st
theorem Out.s (o : Out K σ Γ B H Γ1 B1 H1) : OutS K F σ Γ B H σ Γ1 B1 H1 := ⟨o.step, fun i a h => .inl (o.own i a h), fun _ _ => rfl, o.st⟩
theorem Pur.s (p : Pur B H B1 H1) (s : Stt K B H Γ σ) : OutS K F σ Γ B H σ Γ B1 H1 := (p.out s).s
end
def entOf : Res → Ent
  | .dat d => .dat d
  | .new ds => .own ds
  | .newD kvs => .dic kvs
  | .peek _ => .no
  | .pairP _ _ => .no
  | .pair _ _ => .no
theorem entOf_R {K : PySem.W.Frag} {H0 B H : Hp} {Γ : En} {σ : L2.St} {r : Res} {v : V} (g : ResR K H0 B H Γ σ r v) : EntR K B H (entOf r) (some v) := by
  cases r with
  | dat d => exact ⟨v, rfl, g⟩
  | new ds => obtain ⟨p, xs, e, _, z⟩ := g; exact ⟨p, xs, by rw [e], z⟩
  | newD ds => obtain ⟨p, xs, e, _, z⟩ := g; exact ⟨p, xs, by rw [e], z⟩
  | peek i => trivial
  | pairP i b => trivial
  | pair i b => trivial
theorem entOf_new {K : PySem.W.Frag} {H0 B H : Hp} {Γ : En} {σ : L2.St} {r : Res} {v : V} (g : ResR K H0 B H Γ σ r v) (h : isOwn (some (entOf r))) : ∀ a, v = .ref a → H0 a = none := fun a e => by
  cases r with
  | dat d => exact h.elim
  | new ds => obtain ⟨p, xs, e2, h0, z⟩ := g; rw [e2] at e; cases e; exact h0
  | newD ds => obtain ⟨p, xs, e2, h0, z⟩ := g; rw [e2] at e; cases e; exact h0
  | peek i => exact h.elim
  | pairP i b => exact h.elim
  | pair i b => exact h.elim
def setEnts : En → List Nat → List Res → En
  | Γ, i :: is, r :: rs => setEnts (Γ.set i (entOf r)) is rs
  | Γ, _, _ => Γ
section
variable {K : PySem.W.Frag} {F : List Nat} {B H B1 H1 : Hp}
/-- a slot stored behind an expression -/
theorem OutS.put {σ σ1 : L2.St} {Γ Γ1 : En} {i : Nat} {r : Res} {v : V} (o : OutS K F σ Γ B H σ1 Γ1 B1 H1) (g : EntR K B1 H1 (entOf r) (some v)) (n : isOwn (some (entOf r)) → ∀ a, v = .ref a → H a = none ∧ ¬ Owned Γ1 σ1 a) (hi : i ∉ F) : OutS K F σ Γ B H (σ1.set i (some v)) (Γ1.set i (entOf r)) B1 H1 := by
  refine ⟨o.step, fun j a h => ?_, fun j hj => ?_, o.st.put g fun z a e => (n z a e).2⟩
  · by_cases hl : i < σ1.length
    · obtain ⟨x1, x2⟩ := h
      rcases set_get x1 with ⟨rfl, e⟩ | ⟨ne, x1⟩
      · rw [List.getElem?_set_self (by rw [o.st.len]; exact hl)] at x2
        exact .inr (n x2 a (Option.some.inj e).symm).1
      · rw [List.getElem?_set_ne ne] at x2
        exact o.own j a ⟨x1, x2⟩
    · obtain ⟨x1, x2⟩ := h
      rw [List.set_eq_of_length_le (by rw [o.st.len]; omega)] at x2
      rw [List.set_eq_of_length_le (by omega)] at x1
      exact o.own j a ⟨x1, x2⟩
  · rw [List.getElem?_set_ne (fun z => hi (by rw [z]; exact hj))]
    exact o.fix j hj
theorem ResR.re {H0 : Hp} {σ σ' : L2.St} {Γ Γ' : En} {r : Res} {v : V} (g : ResR K H0 B H Γ σ r v) (h : isPeek r = none) : ResR K H0 B H Γ' σ' r v := by
  cases r with
  | peek i => cases h
  | pairP i b => cases h
  | _ => exact g
theorem OutS.putAll : ∀ {is : List Nat} {rs : List Res} {vs : List V} {σ σ1 : L2.St} {Γ Γ1 Γ0 : En} {σ0 : L2.St}, OutS K F σ Γ B H σ1 Γ1 B1 H1 → ResRs K H B1 H1 Γ0 σ0 rs vs → (∀ r ∈ rs, isPeek r = none) → (∀ i ∈ is, i ∉ F) →
    (∀ (j : Nat) (r : Res) (v : V) (a : Addr), rs[j]? = some r → vs[j]? = some v → isNewR r → v = .ref a → ¬ Owned Γ1 σ1 a) → OutS K F σ Γ B H (setAll σ1 is vs) (setEnts Γ1 is rs) B1 H1
  | [], _, _, _, _, _, _, _, _, o, _, _, _, _ => o
  | _ :: _, [], _, _, _, _, _, _, _, o, g, _, _, _ => by cases (show _ = [] from g); exact o
  | i :: is, r :: rs, _, σ, σ1, Γ, Γ1, Γ0, σ0, o, ⟨v, ws, e, g, t, ap⟩, hp, hF, hn => by
    subst e
    have isn : isOwn (some (entOf r)) → isNewR r := by cases r <;> intro z <;> first | exact trivial | exact z.elim
    have o2 := o.put (i := i) (entOf_R g) (fun z a e => ⟨entOf_new g z a e, hn 0 r v a rfl rfl (isn z) e⟩) (hF i List.mem_cons_self)
    refine OutS.putAll (is := is) o2 t (fun r' hr => hp r' (List.mem_cons_of_mem _ hr)) (fun j hj => hF j (List.mem_cons_of_mem _ hj)) fun j q w a hq hw nq ea ⟨k, x1, x2⟩ => ?_
    by_cases hl : i < σ1.length
    · rcases set_get x1 with ⟨rfl, e⟩ | ⟨ne, x1⟩
      · rw [List.getElem?_set_self (by rw [o.st.len]; exact hl)] at x2
        have ev : v = w := by rw [ea]; exact (Option.some.inj e).symm
        subst ev
        exact ap (isn x2) j q hq nq hw
      · rw [List.getElem?_set_ne ne] at x2
        exact hn (j + 1) q w a (by simpa using hq) (by simpa using hw) nq ea ⟨k, x1, x2⟩
    · rw [List.set_eq_of_length_le (by rw [o.st.len]; omega)] at x2
      rw [List.set_eq_of_length_le (by omega)] at x1
      exact hn (j + 1) q w a (by simpa using hq) (by simpa using hw) nq ea ⟨k, x1, x2⟩
end

/-! ### the judgement of statements -/
structure Po where
  nx : En → Prop
  rt : Res → En → Prop
  bk : En → Prop := fun _ => False
  ct : En → Prop := fun _ => False
def SV (X : Cx) (F : List Nat) (ss : List Stmt) (Γ : En) (P : Po) : Prop := ∀ σ B H, Stt X.K B H Γ σ → ∀ D : Ends,
  (∀ Γ' σ' B' H', OutS X.K F σ Γ B H σ' Γ' B' H' → P.nx Γ' → D.nx σ' H') →
  (∀ r v Γ' σ' B' H', OutS X.K F σ Γ B H σ' Γ' B' H' → ResR X.K H B' H' Γ' σ' r v → P.rt r Γ' → D.rt v H') →
  (∀ Γ' σ' B' H', OutS X.K F σ Γ B H σ' Γ' B' H' → P.bk Γ' → D.bk σ' H') →
  (∀ Γ' σ' B' H', OutS X.K F σ Γ B H σ' Γ' B' H' → P.ct Γ' → D.ct σ' H') → tCanSs X ss D σ H
section
variable {X : Cx} {F : List Nat} {Γ : En} {P : Po} {e a b c : Expr} {rest body orelse : List Stmt} {pos : Pos} {x : Str} {p : Pos} {r : Res} {i : Nat}
/-- go on with the rest from what was reached -/
theorem SV.from {σ : L2.St} {B H : Hp} {Γ1 : En} {σ1 : L2.St} {B1 H1 : Hp} {D : Ends} (h : SV X F rest Γ1 P) (o : OutS X.K F σ Γ B H σ1 Γ1 B1 H1) (q1 : ∀ Γ' σ' B' H', OutS X.K F σ Γ B H σ' Γ' B' H' → P.nx Γ' → D.nx σ' H')
    (q2 : ∀ r v Γ' σ' B' H', OutS X.K F σ Γ B H σ' Γ' B' H' → ResR X.K H B' H' Γ' σ' r v → P.rt r Γ' → D.rt v H') (q3 : ∀ Γ' σ' B' H', OutS X.K F σ Γ B H σ' Γ' B' H' → P.bk Γ' → D.bk σ' H') (q4 : ∀ Γ' σ' B' H', OutS X.K F σ Γ B H σ' Γ' B' H' → P.ct Γ' → D.ct σ' H') : tCanSs X rest D σ1 H1 :=
  h σ1 B1 H1 o.st D (fun Γ' σ' B' H' o' z => q1 Γ' σ' B' H' (o.trans o') z) (fun r v Γ' σ' B' H' o' g z => q2 r v Γ' σ' B' H' (o.trans o') (g.back o.step.dom) z) (fun Γ' σ' B' H' o' z => q3 Γ' σ' B' H' (o.trans o') z) (fun Γ' σ' B' H' o' z => q4 Γ' σ' B' H' (o.trans o') z)
theorem sv_nil (h : P.nx Γ) : SV X F [] Γ P := fun σ B H s D q1 q2 q3 q4 => canSs_of pss_nil (q1 Γ σ B H (.refl s) h)
theorem SV.mono {P' : Po} (h : SV X F body Γ P) (h1 : ∀ Γ', P.nx Γ' → P'.nx Γ') (h2 : ∀ r Γ', P.rt r Γ' → P'.rt r Γ') (h3 : ∀ Γ', P.bk Γ' → P'.bk Γ') (h4 : ∀ Γ', P.ct Γ' → P'.ct Γ') : SV X F body Γ P' := fun σ B H s D q1 q2 q3 q4 =>
  h σ B H s D (fun Γ' σ' B' H' o z => q1 Γ' σ' B' H' o (h1 Γ' z)) (fun r v Γ' σ' B' H' o g z => q2 r v Γ' σ' B' H' o g (h2 r Γ' z)) (fun Γ' σ' B' H' o z => q3 Γ' σ' B' H' o (h3 Γ' z)) (fun Γ' σ' B' H' o z => q4 Γ' σ' B' H' o (h4 Γ' z))
/-- x = e -/
theorem sv_asgE (hN : X.N.Nodup) (hi : X.N[i]? = some x) (hx : Loc X.env.scope x) (hF : i ∉ F) (h : EV X e Γ fun r Γ1 => SV X F rest (Γ1.set i (entOf r)) P) (hs : swapsWith e (some (.Name x p)) pos.line X.env = pure false := by rfl) (hf : X.fn x = true ∨ X.env.scope.names.lookup x = some .local := by first | exact .inl rfl | exact .inr rfl) :
    SV X F (.Assign [.Name x p] e pos :: rest) Γ P := by
  intro σ B H s D q1 q2 q3 q4
  refine canSs_of (pss_cons (ps_set (i := i) hN hi hx (pe_can (e := e)) hs hf) (pss_can (ss := rest))) ?_
  refine h σ B H s _ fun v r Γ1 B1 H1 o1 g1 h1 => ?_
  have o := (Out.s (F := F) o1).put (i := i) (entOf_R g1) (fun z a ea => ⟨entOf_new g1 z a ea, fun ⟨k, hk⟩ => (s.there ⟨k, o1.own k a hk⟩).1 (entOf_new g1 z a ea)⟩) hF
  exact h1.from o q1 q2 q3 q4
theorem sv_asg (hN : X.N.Nodup) (hi : X.N[i]? = some x) (hx : Loc X.env.scope x) (hF : i ∉ F) (h : BR X e Γ r) (k : SV X F rest (Γ.set i (entOf r)) P) (hs : swapsWith e (some (.Name x p)) pos.line X.env = pure false := by rfl) (hf : X.fn x = true ∨ X.env.scope.names.lookup x = some .local := by first | exact .inl rfl | exact .inr rfl) :
    SV X F (.Assign [.Name x p] e pos :: rest) Γ P := sv_asgE hN hi hx hF (h.ev k) hs hf
theorem new_notOwned {K : PySem.W.Frag} {σ : L2.St} {B H B1 H1 : Hp} {Γ1 Γ0 : En} {σ0 : L2.St} {rs : List Res} {vs : List V} (s : Stt K B H Γ σ) (o1 : Out K σ Γ B H Γ1 B1 H1) (g1 : ResRs K H B1 H1 Γ0 σ0 rs vs) (k : Nat) (r : Res) (v : V) (a : Addr) (hr : rs[k]? = some r) (hv : vs[k]? = some v) (nr : isNewR r) (ea : v = .ref a) : ¬ Owned Γ1 σ a := fun ⟨m, hm⟩ => by
  obtain ⟨v', hv', gr⟩ := g1.get hr
  rw [hv] at hv'
  have e := Option.some.inj hv'
  subst e
  refine (s.there ⟨m, o1.own m a hm⟩).1 (entOf_new gr ?_ a ea)
  cases r <;> first | exact trivial | exact nr.elim
/-- a, b = e1, e2 -/
theorem sv_par {j : Nat} {y : Str} {px py pt : Pos} {kt k2 : Nat} {pt2 : Pos} (hc : X.calm = true) (hN : X.N.Nodup) (hi : X.N[i]? = some x) (hj : X.N[j]? = some y) (hij : i ≠ j) (hx : X.env.scope.names.lookup x = some .local) (hy : X.env.scope.names.lookup y = some .local) (hF : i ∉ F ∧ j ∉ F)
    (h : EVA X [a, b] Γ fun rs Γ1 => ∃ r1 r2, rs = [r1, r2] ∧ (isPeek r1 = none ∧ isPeek r2 = none) ∧ SV X F rest ((Γ1.set i (entOf r1)).set j (entOf r2)) P) (hw : swappedStores [.Tuple [.Name x px, .Name y py] kt pt] (.Tuple [a, b] k2 pt2) X.env = pure (some [x, y]) := by rfl) (hs : swapsWithSole [.Tuple [.Name x px, .Name y py] kt pt] (.Tuple [a, b] k2 pt2) pos.line X.env = pure false := by rfl) :
    SV X F (.Assign [.Tuple [.Name x px, .Name y py] kt pt] (.Tuple [a, b] k2 pt2) pos :: rest) Γ P := by
  intro σ B H s D q1 q2 q3 q4
  refine canSs_of (pss_cons (ps_par hc hN hi hj hij hx hy (pa_can (es := [a, b])) hw hs) (pss_can (ss := rest))) ?_
  refine h σ B H s _ fun vs rs Γ1 B1 H1 o1 g1 ⟨r1, r2, er, hp, h1⟩ => ?_
  subst er
  have o := (Out.s (F := F) o1).putAll (is := [i, j]) g1 (fun r hr => by rcases List.mem_cons.mp hr with rfl | hr; exact hp.1; rcases List.mem_cons.mp hr with rfl | hr; exact hp.2; cases hr)
    (fun k hk => by rcases List.mem_cons.mp hk with rfl | hk; exact hF.1; rcases List.mem_cons.mp hk with rfl | hk; exact hF.2; cases hk) (new_notOwned s o1 g1)
  obtain ⟨v, ws, rfl, _, ⟨w, us, rfl, _, t, _⟩, _⟩ := g1
  cases (show us = [] from t)
  exact ⟨v, w, rfl, h1.from o q1 q2 q3 q4⟩
/-- .. where a name is a cell, or more than two: by way of a tuple -/
theorem sv_asgT {es tes : List Expr} {is : List Nat} {kt k2 : Nat} {pt pt2 : Pos} (hc : X.calm = true) (hg : PGs X tes (gNames is)) (hF : ∀ i ∈ is, i ∉ F) (h : EVA X es Γ fun rs Γ1 => rs.length = is.length ∧ (∀ r ∈ rs, isPeek r = none) ∧ SV X F rest (setEnts Γ1 is rs) P) (hl : is.length ≤ sizeLine)
    (hn : (assignEach tes X.env).length = is.length := by rfl) (hst : (assignEach tes X.env).findIdx? (·.1) = none := by rfl) (hs : swapsWithSole [.Tuple tes kt pt] (.Tuple es k2 pt2) pos.line X.env = pure false := by rfl) (hw : swappedStores [.Tuple tes kt pt] (.Tuple es k2 pt2) X.env = pure none := by rfl) (h1 : (assignEach [.Tuple tes kt pt] X.env).map (·.2) = [assign (.Tuple tes kt pt) X.env] := by rfl) :
    SV X F (.Assign [.Tuple tes kt pt] (.Tuple es k2 pt2) pos :: rest) Γ P := by
  intro σ B H s D q1 q2 q3 q4
  refine canSs_of (pss_cons (ps_asg (pe_tup (pa_can (es := es))) (pg_tup hc hg hn hst) hs hw h1) (pss_can (ss := rest))) ?_
  refine h σ B H s _ fun vs rs Γ1 B1 H1 o1 g1 ⟨hle, hp, hk⟩ => ?_
  have hlv : vs.length = is.length := by rw [← g1.len, hle]
  refine ⟨by rw [hlv]; exact hl, fun t ht => ?_⟩
  refine ⟨t, vs, rfl, .of upd_same, hlv, ?_⟩
  have p2 : Pur B1 H1 B1 (upd H1 t (.tup vs)) := .grown o1.st.sub (same_upd ht)
  have g2 : ResRs X.K H B1 (upd H1 t (.tup vs)) Γ1 σ rs vs := by
    have go : ∀ {o : HO} {rs : List Res} {vs : List V}, ResRs X.K H B1 H1 Γ1 σ rs vs → ResRs X.K H B1 (upd H1 t o) Γ1 σ rs vs := by
      intro o rs
      induction rs with
      | nil => intro vs g; exact g
      | cons r rs ih =>
        intro vs ⟨v, ws, e, g, t', ap⟩
        exact ⟨v, ws, e, g.on (.grown o1.st.sub (same_upd ht)), ih t', ap⟩
    exact go g1
  refine gNames_run hlv ?_
  have o := (OutS.trans (Out.s (F := F) o1) (p2.s o1.st)).putAll (is := is) g2 hp hF (new_notOwned s o1 g1)
  exact hk.from o q1 q2 q3 q4
/-- a, b = e, e worth a tuple (a list) that is data -/
theorem sv_unpack {tg : Expr} {is : List Nat} (hF : ∀ i ∈ is, i ∉ F) (h : EV X e Γ fun r Γ1 => ∃ d ds, r = .dat d ∧ BG X tg is d ds ∧ SV X F rest (setDat Γ1 is ds) P)
    (hs : swapsWithSole [tg] e pos.line X.env = pure false := by rfl) (hw : swappedStores [tg] e X.env = pure none := by rfl) (h1 : (assignEach [tg] X.env).map (·.2) = [assign tg X.env] := by rfl) : SV X F (.Assign [tg] e pos :: rest) Γ P := by
  intro σ B H s D q1 q2 q3 q4
  refine canSs_of (pss_cons (ps_asg (pe_can (e := e)) (pg_can (tg := tg)) hs hw h1) (pss_can (ss := rest))) ?_
  refine h σ B H s _ fun v r Γ1 B1 H1 o1 g1 ⟨d, ds, er, hb, hk⟩ => ?_
  subst er
  refine hb σ B1 H1 v o1.st.sub g1 _ fun vs gv => ?_
  have o : OutS X.K F σ Γ B H (setAll σ is vs) (setDat Γ1 is ds) B1 H1 := by
    have gen : ∀ {is : List Nat} {ds : List PyData} {vs : List V} {Γ1 : En} {σ1 : L2.St}, (∀ i ∈ is, i ∉ F) → RpAll X.K B1 ds vs → OutS X.K F σ Γ B H σ1 Γ1 B1 H1 → OutS X.K F σ Γ B H (setAll σ1 is vs) (setDat Γ1 is ds) B1 H1 := by
      intro is
      induction is with
      | nil => intro ds vs Γ1 σ1 _ _ o; exact o
      | cons i is ih =>
        intro ds vs Γ1 σ1 hF g o
        cases g with
        | nil => exact o
        | cons h t => exact ih (fun j hj => hF j (List.mem_cons_of_mem _ hj)) t (o.put (i := i) (r := .dat _) ⟨_, rfl, h⟩ (fun z => z.elim) (hF i List.mem_cons_self))
    exact gen hF gv (Out.s o1)
  exact hk.from o q1 q2 q3 q4
/-- an expression for its acts -/
theorem sv_expr (h : EV X e Γ fun _ Γ1 => SV X F rest Γ1 P) (hs : swapsWith e none pos.line X.env = pure false := by rfl) : SV X F (.Expr e pos :: rest) Γ P := by
  intro σ B H s D q1 q2 q3 q4
  refine canSs_of (pss_cons (ps_expr (pe_can (e := e)) hs) (pss_can (ss := rest))) ?_
  refine h σ B H s _ fun v r Γ1 B1 H1 o1 g1 h1 => ?_
  exact h1.from (Out.s o1) q1 q2 q3 q4
theorem sv_ret (h : EV X e Γ fun r Γ1 => P.rt r Γ1) : SV X F (.Return (some e) pos :: rest) Γ P := by
  intro σ B H s D q1 q2 q3 q4
  refine canSs_of (pss_cons (ps_ret (pe_can (e := e))) (pss_can (ss := rest))) ?_
  refine h σ B H s _ fun v r Γ1 B1 H1 o1 g1 h1 => ?_
  exact q2 r v Γ1 σ B1 H1 (Out.s o1) g1 h1
/-- if -/
theorem sv_if {k : Bool} (h : BT X c Γ k) (h1 : k = true → SV X F body Γ { P with nx := fun Γ1 => SV X F rest Γ1 P }) (h2 : k = false → SV X F orelse Γ { P with nx := fun Γ1 => SV X F rest Γ1 P }) : SV X F (.If c body orelse pos :: rest) Γ P := by
  intro σ B H s D q1 q2 q3 q4
  refine canSs_of (pss_cons (ps_if (pt_can (e := c)) (pss_can (ss := body)) (pss_can (ss := orelse))) (pss_can (ss := rest))) ?_
  refine h σ B H s _ fun H1 e1 => ?_
  have o : OutS X.K F σ Γ B H σ Γ B H1 := (Pur.grown s.sub e1).s s
  have nxt : ∀ Γ' σ' B' H', OutS X.K F σ Γ B H σ' Γ' B' H' → SV X F rest Γ' P → tCanSs X rest D σ' H' := fun Γ' σ' B' H' o' z => z.from o' q1 q2 q3 q4
  cases k with
  | true => exact (h1 rfl).from (D := { D with nx := tCanSs X rest D }) o nxt q2 q3 q4
  | false => exact (h2 rfl).from (D := { D with nx := tCanSs X rest D }) o nxt q2 q3 q4
/-- if without else -/
theorem sv_when {k : Bool} (h : BT X c Γ k) (h1 : k = true → SV X F body Γ { P with nx := fun Γ1 => SV X F rest Γ1 P }) (h2 : k = false → SV X F rest Γ P) : SV X F (.If c body [] pos :: rest) Γ P := sv_if h h1 fun z => sv_nil (h2 z)
/-- the test is asked of the environment with owned things looked at as data: nothing of that stays -/
theorem bt_frozen {ds : List PyData} {k : Bool} (hi : Γ[i]? = some (.own ds)) (h : BT X c (Γ.set i (.dat (.list ds))) k) : BT X c Γ k := by
  intro σ B H s Q q
  obtain ⟨p, xs, p1, hb, hh, g, op, st⟩ := s.freeze hi
  exact h σ (upd B p (.lst xs)) H st Q q
theorem sv_freeze {ds : List PyData} (hi : Γ[i]? = some (.own ds)) (h : SV X F body (Γ.set i (.dat (.list ds))) P) : SV X F body Γ P := by
  intro σ B H s D q1 q2 q3 q4
  obtain ⟨p, xs, p1, hb, hh, g, op, st⟩ := s.freeze hi
  have o : OutS X.K F σ Γ B H σ (Γ.set i (.dat (.list ds))) (upd B p (.lst xs)) H := by
    refine ⟨⟨same_upd hb, same_upd2 s.sub hh, fun _ _ _ h => h, fun _ h => h, fun a n h1 h2 => ?_⟩, fun j a h => .inl (ownAt_set (K := X.K) (t := .dat (.list ds)) (fun z => z) h), fun _ _ => rfl, st⟩
    have : a ≠ p := fun z => by subst z; exact n ⟨i, op⟩
    rw [upd_ne this]
    exact h2
  exact h.from o q1 q2 q3 q4
/-- what is known of a slot forgotten -/
theorem Stt.drop {K : PySem.W.Frag} {σ : L2.St} {B H : Hp} (s : Stt K B H Γ σ) (i : Nat) : Stt K B H (Γ.set i .no) σ := by
  refine ⟨by rw [List.length_set]; exact s.len, s.sub, fun j t hj => ?_, fun j k a h1 h2 => s.sep j k a (ownAt_set (K := K) (t := .no) (fun z => z) h1) (ownAt_set (K := K) (t := .no) (fun z => z) h2)⟩
  rcases set_get hj with ⟨rfl, rfl⟩ | ⟨ne, hj⟩
  · have hl : i < Γ.length := by
      by_cases h : i < Γ.length
      · exact h
      · rw [List.getElem?_eq_none (by rw [List.length_set]; omega)] at hj
        cases hj
    exact ⟨σ[i]'(by rw [← s.len]; exact hl), List.getElem?_eq_getElem (by rw [← s.len]; exact hl), trivial⟩
  · exact s.ent j t hj
theorem sv_drop (i : Nat) (h : SV X F body (Γ.set i .no) P) : SV X F body Γ P := fun σ B H s D q1 q2 q3 q4 =>
  h.from ⟨.refl s.sub, fun j a h => .inl (ownAt_set (K := X.K) (t := .no) (fun z => z) h), fun _ _ => rfl, s.drop i⟩ q1 q2 q3 q4
/-- for -/
theorem sv_for {α : Type} {tg iter : Expr} {wi : TI} {L : List α} {enc : α → PyData} {is : List Nat} {sp : α → List PyData} (hp : PassesOwn (model X.prog X.w) X.A X.env X.xe) (hc : X.calm = true) (hi : PI X tg iter wi) (src : Gives X wi Γ (L.map enc)) (hF : ∀ i ∈ is, i ∉ F) (hg : ∀ x ∈ L, BG X tg is (enc x) (sp x))
    (I : List α → En → Prop) (h0 : I [] Γ) (hs : ∀ pre x post Γ1, L = pre ++ x :: post → I pre Γ1 → SV X F body (setDat Γ1 is (sp x)) { nx := I (pre ++ [x]), ct := I (pre ++ [x]), bk := fun Γ2 => SV X F rest Γ2 P, rt := P.rt }) (hd : ∀ Γ1, I L Γ1 → SV X F rest Γ1 P)
    (hfs : ∀ x, foldedSetIterable iter X.env x = pure x := by intro _; rfl) : SV X F (.For tg iter body [] pos :: rest) Γ P := by
  intro σ B H s D q1 q2 q3 q4
  refine canSs_of (pss_cons (ps_for hp hc hi (pg_can (tg := tg)) (pss_can (ss := body)) hfs) (pss_can (ss := rest))) ?_
  refine src σ B H s _ fun J B1 H1 G Y o1 w hG hY => ?_
  rw [List.length_map] at w hY
  refine for_it w (fun i σ' H' => ∃ Γ' B', OutS X.K F σ Γ B H σ' Γ' B' H' ∧ Same B1 B' ∧ I (L.take i) Γ') ?_ ?_ ?_ ?_
  · exact ⟨Γ, B1, o1.s s, fun _ _ h => h, h0⟩
  · intro i σ' H' hi ⟨Γ', B', o, e, _⟩
    exact hG H' (e.trans o.st.sub)
  · intro i y σ' H2 H3 hi ⟨Γ', B', o, e, hI⟩ hy
    obtain ⟨d, B2, hd', o2, gd⟩ := hY i y H2 H3 B' hi e o.st.sub hy
    rw [List.getElem?_map, List.getElem?_eq_getElem hi] at hd'
    have ed : enc L[i] = d := Option.some.inj hd'
    subst ed
    have oo := o.trans (o2.s (F := F) o.st)
    refine hg L[i] (List.getElem_mem hi) σ' B2 H3 y o2.sub gd _ fun vs gv => ?_
    have gen : ∀ {is : List Nat} {ds : List PyData} {vs : List V} {Γ1 : En} {σ1 : L2.St}, (∀ i ∈ is, i ∉ F) → RpAll X.K B2 ds vs → OutS X.K F σ Γ B H σ1 Γ1 B2 H3 → OutS X.K F σ Γ B H (setAll σ1 is vs) (setDat Γ1 is ds) B2 H3 := by
      intro is
      induction is with
      | nil => intro ds vs Γ1 σ1 _ _ o; exact o
      | cons i is ih =>
        intro ds vs Γ1 σ1 hF g o
        cases g with
        | nil => exact o
        | cons h t => exact ih (fun j hj => hF j (List.mem_cons_of_mem _ hj)) t (o.put (i := i) (r := .dat _) ⟨_, rfl, h⟩ (fun z => z.elim) (hF i List.mem_cons_self))
    have o3 := gen hF gv oo
    have split : L = L.take i ++ L[i] :: L.drop (i + 1) := by rw [← List.drop_eq_getElem_cons hi, List.take_append_drop]
    have et : L.take (i + 1) = L.take i ++ [L[i]] := by rw [List.take_add_one, List.getElem?_eq_getElem hi]; rfl
    have up : Same B1 B2 := e.trans o2.ex
    have step := hs (L.take i) L[i] (L.drop (i + 1)) Γ' split hI
    refine step _ B2 H3 o3.st _ ?_ ?_ ?_ ?_
    · intro Γ4 σ4 B4 H4 o4 z
      exact ⟨Γ4, B4, o3.trans o4, up.trans o4.step.ex, by rw [et]; exact z⟩
    · intro r v Γ4 σ4 B4 H4 o4 g z
      exact q2 r v Γ4 σ4 B4 H4 (o3.trans o4) (g.back o3.step.dom) z
    · intro Γ4 σ4 B4 H4 o4 z
      exact z.from (o3.trans o4) q1 q2 q3 q4
    · intro Γ4 σ4 B4 H4 o4 z
      exact ⟨Γ4, B4, o3.trans o4, up.trans o4.step.ex, by rw [et]; exact z⟩
  · intro σ' H' ⟨Γ', B', o, e, hI⟩
    rw [List.take_of_length_le (Nat.le_refl _)] at hI
    exact (hd Γ' hI).from o q1 q2 q3 q4
/-- while -/
theorem sv_while (hp : PassesOwn (model X.prog X.w) X.A X.env X.xe) (I : Nat → En → Prop) (m0 : Nat) (h0 : I m0 Γ)
    (hs : ∀ m Γ1, I m Γ1 → ∃ k, BT X c Γ1 k ∧ (k = true → SV X F body Γ1 { nx := fun Γ2 => ∃ m', m' < m ∧ I m' Γ2, ct := fun Γ2 => ∃ m', m' < m ∧ I m' Γ2, bk := fun Γ2 => SV X F rest Γ2 P, rt := P.rt }) ∧ (k = false → SV X F rest Γ1 P)) : SV X F (.While c body [] pos :: rest) Γ P := by
  intro σ B H s D q1 q2 q3 q4
  refine canSs_of (pss_cons (ps_while hp (pt_can (e := c)) (pss_can (ss := body))) (pss_can (ss := rest))) ?_
  refine ⟨fun m σ' H' => ∃ Γ' B', OutS X.K F σ Γ B H σ' Γ' B' H' ∧ I m Γ', ⟨m0, Γ, B, .refl s, h0⟩, fun m σ' H' ⟨Γ', B', o, hI⟩ => ?_⟩
  obtain ⟨k, ht, h1, h2⟩ := hs m Γ' hI
  refine ht σ' B' H' o.st _ fun H2 e2 => ?_
  have o2 := o.trans ((Pur.grown o.st.sub e2).s (F := F) o.st)
  cases k with
  | true =>
    show ∃ N : L2.St → Hp → Prop, _ ∧ _
    refine ⟨fun σ3 H3 => ∃ m', m' < m ∧ ∃ Γ3 B3, OutS X.K F σ Γ B H σ3 Γ3 B3 H3 ∧ I m' Γ3, fun σ3 H3 ⟨m', l, z⟩ => ⟨m', l, z⟩, ?_⟩
    refine h1 rfl σ' B' H2 o2.st _ ?_ ?_ ?_ ?_
    · intro Γ4 σ4 B4 H4 o4 ⟨m', l, z⟩
      exact ⟨m', l, Γ4, B4, o2.trans o4, z⟩
    · intro r v Γ4 σ4 B4 H4 o4 g z
      exact q2 r v Γ4 σ4 B4 H4 (o2.trans o4) (g.back o2.step.dom) z
    · intro Γ4 σ4 B4 H4 o4 z
      exact z.from (o2.trans o4) q1 q2 q3 q4
    · intro Γ4 σ4 B4 H4 o4 ⟨m', l, z⟩
      exact ⟨m', l, Γ4, B4, o2.trans o4, z⟩
  | false => exact (h2 rfl).from o2 q1 q2 q3 q4
end
end Bv
set_option Elab.async false
set_option autoImplicit false
set_option linter.all false
set_option maxRecDepth 100000
set_option maxHeartbeats 2000000
/-! Bv7: a def by its body; acts on owned lists and dicts. -/
namespace Bv
open PySem PySem.Spec PyProof.Rows L2

def outs : En → En → En
  | [], _ => []
  | .own _ :: es, Γ' => (Γ'.head?).getD .no :: outs es Γ'.tail
  | .dic _ :: es, Γ' => (Γ'.head?).getD .no :: outs es Γ'.tail
  | e :: es, Γ' => e :: outs es Γ'.tail
theorem outs_len : ∀ (es Γ' : En), (outs es Γ').length = es.length
  | [], _ => rfl
  | .own _ :: es, Γ' => by show _ + 1 = _ + 1; rw [outs_len es]
  | .dic _ :: es, Γ' => by show _ + 1 = _ + 1; rw [outs_len es]
  | .no :: es, Γ' => by show _ + 1 = _ + 1; rw [outs_len es]
  | .dat _ :: es, Γ' => by show _ + 1 = _ + 1; rw [outs_len es]
  | .scr _ :: es, Γ' => by show _ + 1 = _ + 1; rw [outs_len es]
theorem outs_get : ∀ (es Γ' : En) (i : Nat) (t : Ent), (outs es Γ')[i]? = some t → (isOwn es[i]? ∧ t = (Γ'[i]?).getD .no) ∨ (¬ isOwn es[i]? ∧ es[i]? = some t)
  | [], _, _, _, h => by simp [outs] at h
  | e :: es, Γ', 0, t, h => by
    cases e with
    | own ds => refine .inl ⟨trivial, ?_⟩; have h' := Option.some.inj h; rw [← h']; cases Γ' <;> rfl
    | dic ds => refine .inl ⟨trivial, ?_⟩; have h' := Option.some.inj h; rw [← h']; cases Γ' <;> rfl
    | no => exact .inr ⟨fun z => z, h⟩
    | dat d => exact .inr ⟨fun z => z, h⟩
    | scr d => exact .inr ⟨fun z => z, h⟩
  | e :: es, Γ', i + 1, t, h => by
    have h' : (outs es Γ'.tail)[i]? = some t := by cases e <;> exact h
    have r := outs_get es Γ'.tail i t h'
    have e1 : (e :: es)[i + 1]? = es[i]? := rfl
    have e2 : Γ'.tail[i]? = Γ'[i + 1]? := by cases Γ' <;> rfl
    rw [e1, ← e2]
    exact r
def retOf (es Γ' : En) : Res → Option Res
  | .dat d => some (.dat d)
  | .new ds => some (.new ds)
  | .newD ds => some (.newD ds)
  | .peek i => match es[i]?, Γ'[i]? with
    | some (.own _), _ => none
    | some (.dic _), _ => none
    | _, some (.own ds) => some (.new ds)
    | _, some (.dic ds) => some (.newD ds)
    | _, _ => none
  | .pairP i b => match es[i]?, Γ'[i]? with
    | some (.own _), _ => none
    | some (.dic _), _ => none
    | _, some (.own ds) => some (.pair ds b)
    | _, _ => none
  | .pair a b => some (.pair a b)
theorem retOf_peek {es Γ' : En} {i : Nat} {r : Res} (h : retOf es Γ' (.peek i) = some r) : ¬ isOwn es[i]? ∧ ((∃ ds, Γ'[i]? = some (.own ds) ∧ r = .new ds) ∨ ∃ ds, Γ'[i]? = some (.dic ds) ∧ r = .newD ds) := by
  unfold retOf at h
  cases e1 : es[i]? with
  | none =>
    refine ⟨fun z => z, ?_⟩
    cases e2 : Γ'[i]? with
    | none => simp [e1, e2] at h
    | some t => cases t <;> simp [e1, e2] at h <;> first | exact .inl ⟨_, rfl, h.symm⟩ | exact .inr ⟨_, rfl, h.symm⟩
  | some u =>
    cases u with
    | own ds => simp [e1] at h
    | dic ds => simp [e1] at h
    | no => refine ⟨fun z => z, ?_⟩
            cases e2 : Γ'[i]? with
            | none => simp [e1, e2] at h
            | some t => cases t <;> simp [e1, e2] at h <;> first | exact .inl ⟨_, rfl, h.symm⟩ | exact .inr ⟨_, rfl, h.symm⟩
    | dat d => refine ⟨fun z => z, ?_⟩
               cases e2 : Γ'[i]? with
               | none => simp [e1, e2] at h
               | some t => cases t <;> simp [e1, e2] at h <;> first | exact .inl ⟨_, rfl, h.symm⟩ | exact .inr ⟨_, rfl, h.symm⟩
    | scr d => refine ⟨fun z => z, ?_⟩
               cases e2 : Γ'[i]? with
               | none => simp [e1, e2] at h
               | some t => cases t <;> simp [e1, e2] at h <;> first | exact .inl ⟨_, rfl, h.symm⟩ | exact .inr ⟨_, rfl, h.symm⟩
theorem retOf_pair {es Γ' : En} {i : Nat} {r : Res} {b : List PyData} (h : retOf es Γ' (.pairP i b) = some r) : ¬ isOwn es[i]? ∧ (∃ ds, Γ'[i]? = some (.own ds) ∧ r = .pair ds b) := by
  unfold retOf at h
  cases e1 : es[i]? with
  | none =>
    refine ⟨fun z => z, ?_⟩
    cases e2 : Γ'[i]? with
    | none => simp [e1, e2] at h
    | some t => cases t <;> simp [e1, e2] at h <;> exact ⟨_, rfl, h.symm⟩
  | some u =>
    cases u with
    | own ds => simp [e1] at h
    | dic ds => simp [e1] at h
    | no => refine ⟨fun z => z, ?_⟩
            cases e2 : Γ'[i]? with
            | none => simp [e1, e2] at h
            | some t => cases t <;> simp [e1, e2] at h <;> exact ⟨_, rfl, h.symm⟩
    | dat d => refine ⟨fun z => z, ?_⟩
               cases e2 : Γ'[i]? with
               | none => simp [e1, e2] at h
               | some t => cases t <;> simp [e1, e2] at h <;> exact ⟨_, rfl, h.symm⟩
    | scr d => refine ⟨fun z => z, ?_⟩
               cases e2 : Γ'[i]? with
               | none => simp [e1, e2] at h
               | some t => cases t <;> simp [e1, e2] at h <;> exact ⟨_, rfl, h.symm⟩
def startE (N : List Str) (es : En) : En := es ++ List.replicate (N.length - es.length) .no
section
variable {P : Program} {w : World} {K : PySem.W.Frag} {mg : Str → Option Value} {base : Heap}
theorem start_st {B H : Hp} {es : En} {vs : List V} {N : List Str} (s : Stt K B H es (vs.map some)) : Stt K B H (startE N es) (start N vs) ∧ (∀ i a, ownAt (startE N es) (start N vs) i a ↔ ownAt es (vs.map some) i a) := by
  have hl : es.length = vs.length := by rw [s.len, List.length_map]
  have g1 : ∀ i, i < es.length → (startE N es)[i]? = es[i]? ∧ (start N vs)[i]? = (vs.map some)[i]? := fun i hi =>
    ⟨List.getElem?_append_left hi, List.getElem?_append_left (by rw [List.length_map, ← hl]; exact hi)⟩
  have g2 : ∀ i t, es.length ≤ i → (startE N es)[i]? = some t → t = .no ∧ (start N vs)[i]? = some none := fun i t hi h => by
    have h1 : (List.replicate (N.length - es.length) Ent.no)[i - es.length]? = some t := by rw [← h]; exact (List.getElem?_append_right hi).symm
    rw [List.getElem?_replicate] at h1
    split at h1
    · rename_i hlt
      refine ⟨(Option.some.inj h1).symm, ?_⟩
      show (vs.map some ++ List.replicate (N.length - vs.length) none)[i]? = _
      rw [List.getElem?_append_right (by rw [List.length_map, ← hl]; exact hi), List.getElem?_replicate, List.length_map, ← hl, if_pos hlt]
    · cases h1
  have ow : ∀ i a, ownAt (startE N es) (start N vs) i a ↔ ownAt es (vs.map some) i a := fun i a => by
    by_cases hi : i < es.length
    · obtain ⟨e1, e2⟩ := g1 i hi
      unfold ownAt
      rw [e1, e2]
    · constructor
      · intro ⟨_, x2⟩
        cases q : (startE N es)[i]? with
        | none => rw [q] at x2; exact x2.elim
        | some t => rw [q, (g2 i t (by omega) q).1] at x2; exact x2.elim
      · intro ⟨_, x2⟩
        rw [List.getElem?_eq_none (by omega)] at x2
        exact x2.elim
  refine ⟨⟨?_, s.sub, fun i t h => ?_, fun i j a h1 h2 => s.sep i j a ((ow i a).mp h1) ((ow j a).mp h2)⟩, ow⟩
  · show (es ++ _).length = (vs.map some ++ _).length
    rw [List.length_append, List.length_append, List.length_replicate, List.length_replicate, List.length_map, hl]
  · by_cases hi : i < es.length
    · obtain ⟨e1, e2⟩ := g1 i hi
      rw [e1] at h
      rw [e2]
      exact s.ent i t h
    · obtain ⟨e1, e2⟩ := g2 i t (by omega) h
      subst e1
      exact ⟨none, e2, trivial⟩
/-- a def's body run -/
theorem run_body {X : Cx} {ss : List Stmt} {N : List Str} {vs : List V} {B H : Hp} {Q : VK} {es : En} {Φ : Res → En → Prop} (fix : List Nat) (hown : ∀ i, isOwn es[i]? → i ∈ fix) (s0 : Stt X.K B H es (vs.map some))
    (q : ∀ r v es' B' H', Step (Owned es (vs.map some)) B H B' H' → Stt X.K B' H' es' (vs.map some) → ResR X.K H B' H' [] [] r v → Φ r es' → Q v H')
    (body : SV X fix ss (startE N es) { nx := fun Γ' => Φ (.dat .none) (outs es Γ'), rt := fun r Γ' => ∃ r', retOf es Γ' r = some r' ∧ Φ r' (outs es Γ') }) : tCanSs X ss { nx := fun _ H' => Q .non H', rt := Q } (start N vs) H := by
  obtain ⟨s1, ow⟩ := start_st (N := N) s0
  have hl : es.length = vs.length := by rw [s0.len, List.length_map]
  have fin : ∀ {r : Res} {v : V} {Γ' : En} {σ' : L2.St} {B' H' : Hp}, OutS X.K fix (start N vs) (startE N es) B H σ' Γ' B' H' → ResR X.K H B' H' [] [] r v → Φ r (outs es Γ') → Q v H' := fun {r v Γ' σ' B' H'} o g z => by
    refine q r v (outs es Γ') B' H' ?_ ?_ g z
    · refine ⟨o.step.ex, o.step.sub, fun a ob n h => o.step.keep a ob (fun ⟨i, hi⟩ => n ⟨i, (ow i a).mp hi⟩) h, o.step.dom, fun a n h1 h2 => o.step.new a (fun ⟨i, hi⟩ => n ⟨i, (ow i a).mp hi⟩) h1 h2⟩
    · have oe : ∀ {i : Nat} {a : Addr}, ownAt (outs es Γ') (vs.map some) i a → ownAt es (vs.map some) i a := fun {i a} ⟨x1, x2⟩ => by
        refine ⟨x1, ?_⟩
        cases e : (outs es Γ')[i]? with
        | none => rw [e] at x2; exact x2.elim
        | some t =>
          rcases outs_get es Γ' i t e with ⟨h1, _⟩ | ⟨h1, h2⟩
          · exact h1
          · rw [e] at x2; rw [h2]; exact x2
      refine ⟨by rw [outs_len]; exact s0.len, o.step.sub, fun i t ht => ?_, fun i j a h1 h2 => s0.sep i j a (oe h1) (oe h2)⟩
      rcases outs_get es Γ' i t ht with ⟨h1, h2⟩ | ⟨h1, h2⟩
      · have hi := hown i h1
        have hlt : i < es.length := by
          by_cases h : i < es.length
          · exact h
          · rw [List.getElem?_eq_none (by omega)] at h1; exact h1.elim
        have e1 : σ'[i]? = (vs.map some)[i]? := by
          rw [o.fix i hi]
          exact List.getElem?_append_left (by rw [List.length_map, ← hl]; exact hlt)
        have e2 : (vs.map some)[i]? = some (some (vs[i]'(by omega))) := by rw [List.getElem?_map, List.getElem?_eq_getElem (by omega)]; rfl
        have hlt' : i < Γ'.length := by
          rw [o.st.len]
          by_cases h : i < σ'.length
          · exact h
          · rw [List.getElem?_eq_none (by omega), e2] at e1; cases e1
        have e3 : Γ'[i]? = some t := by
          rw [List.getElem?_eq_getElem hlt'] at h2 ⊢
          exact congrArg some h2.symm
        obtain ⟨ov, k1, k2⟩ := o.st.ent i t e3
        exact ⟨ov, by rw [← e1]; exact k1, k2⟩
      · obtain ⟨ov, k1, k2⟩ := s0.ent i t h2
        refine ⟨ov, k1, ?_⟩
        cases t with
        | no => exact k2
        | dat d => obtain ⟨v, e, g⟩ := k2; exact ⟨v, e, g.up o.step.ex⟩
        | own ds => exact absurd (by rw [h2]; trivial) h1
        | dic ds => exact absurd (by rw [h2]; trivial) h1
        | scr ns => obtain ⟨l, e, g⟩ := k2; exact ⟨l, e, same_l o.step.ex g⟩
  refine body (start N vs) B H s1 _ ?_ ?_ ?_ ?_
  · intro Γ' σ' B' H' o z
    exact fin (r := .dat .none) o (show Rp X.K B' .none V.non from .non) z
  · intro r v Γ' σ' B' H' o g ⟨r', e, z⟩
    refine fin o ?_ z
    cases r with
    | dat d => cases e; exact g
    | new ds => cases e; exact g
    | newD ds => cases e; exact g
    | pair a b => cases e; exact g
    | pairP i b =>
      obtain ⟨n, ds, h1, rfl⟩ := retOf_pair e
      obtain ⟨t, p0, q0, ys, ev, t0, ht, hs, hi, npq, h0, hb, hh, g⟩ := g
      have fresh : ∀ a, ownAt Γ' σ' i a → H a = none := fun a ha => (o.own i a ha).elim (fun z => absurd ((ow i a).mp z).2 n) id
      obtain ⟨ov, k1, p, xs, k2, kb, kh, k3⟩ := o.st.ent i _ h1
      rw [k2] at k1
      have ep : V.ref p0 = .ref p := Option.some.inj (Option.some.inj (hs.symm.trans k1))
      cases ep
      exact ⟨t, p0, q0, xs, ys, ev, t0, ht, npq, ⟨fresh p0 ⟨hs, hi⟩, kb, kh, k3⟩, h0, hb, hh, g⟩
    | peek i =>
      obtain ⟨n, h⟩ := retOf_peek e
      have fresh : ∀ a, ownAt Γ' σ' i a → H a = none := fun a ha => (o.own i a ha).elim (fun z => absurd ((ow i a).mp z).2 n) id
      rcases h with ⟨ds, h1, rfl⟩ | ⟨ds, h1, rfl⟩
      · obtain ⟨ov, k1, p, xs, k2, k3⟩ := o.st.ent i _ h1
        rw [k2] at k1
        have ev : v = .ref p := Option.some.inj (Option.some.inj (g.1.symm.trans k1))
        exact ⟨p, xs, ev, fresh p ⟨k1, by rw [h1]; trivial⟩, k3⟩
      · obtain ⟨ov, k1, p, xs, k2, k3⟩ := o.st.ent i _ h1
        rw [k2] at k1
        have ev : v = .ref p := Option.some.inj (Option.some.inj (g.1.symm.trans k1))
        exact ⟨p, xs, ev, fresh p ⟨k1, by rw [h1]; trivial⟩, k3⟩
  · intro _ _ _ _ _ z; exact z.elim
  · intro _ _ _ _ _ z; exact z.elim
/-- THE RULE of a def -/
theorem fn_ok {x qual : Str} {st : Stmt} {f : Addr} {fd : FuncData} {N ps : List Str} {k : Nat} {S : Sb} (fix : List Nat) (F : Fun K x qual st f fd) (Sc : FnScope N ps (defScope st)) (len : ∀ es Φ, S es Φ → es.length = ps.length) (hown : ∀ es Φ, S es Φ → ∀ i, isOwn es[i]? → i ∈ fix)
    (body : ∀ (cdv : Value) (A : Around) (outer : List Env) (s : Shared) (H : Hp) (E : XK), Room k (A.deeper (envOfC qual (defScope st) s.heap.objs.size f cdv)) → ∀ es Φ, S es Φ →
      SV (cxOf CX0 P w K mg base N qual (defScope st) f cdv A outer s H E).nox fix (defBody st) (startE N es) { nx := fun Γ' => Φ (.dat .none) (outs es Γ'), rt := fun r Γ' => ∃ r', retOf es Γ' r = some r' ∧ Φ r' (outs es Γ') }) : FnOk P w K mg base CX0 (k + 1) f fd ps (toSp K S) := by
  refine F.ok Sc (fun vs H Q E h => ?_) (fun cdv A outer s H vs Q E hr h => ?_)
  · obtain ⟨B, es, Φ, s, hS, _⟩ := h
    have := s.len
    rw [List.length_map] at this
    rw [← this]
    exact len es Φ hS
  · obtain ⟨B, es, Φ, s0, hS, q⟩ := h
    exact ⟨_, pss_can, run_body fix (hown es Φ hS) s0 q (body cdv A outer s H E hr es Φ hS)⟩
end

/-! ### acts -/
section
variable {X : Cx} {Γ : En} {e a b c : Expr} {r r1 r2 : Res} {pos : Pos} {x : Str} {p apos : Pos} {i : Nat} {Φ : Res → En → Prop}
/-- an owned list written -/
theorem Out.write {K : PySem.W.Frag} {σ : L2.St} {B H : Hp} {ds ds' : List PyData} {p : Addr} {xs' : List V} (s : Stt K B H Γ σ) (hi : Γ[i]? = some (.own ds)) (hp : σ[i]? = some (some (.ref p))) (g : RpAll K B ds' xs') : Out K σ Γ B H (Γ.set i (.own ds')) B (upd H p (.lst xs')) := by
  obtain ⟨ov, h1, q, xs, e1, hb, hh, _⟩ := s.ent i _ hi
  rw [hp] at h1
  cases h1
  cases e1
  have op : ownAt Γ σ i p := ⟨hp, by rw [hi]; trivial⟩
  have own1 : ∀ {j : Nat} {a : Addr}, ownAt (Γ.set i (.own ds')) σ j a → ownAt Γ σ j a := fun {j a} ⟨x1, x2⟩ => by
    refine ⟨x1, ?_⟩
    cases q : (Γ.set i (.own ds'))[j]? with
    | none => rw [q] at x2; exact x2.elim
    | some t =>
      rcases set_get q with ⟨rfl, _⟩ | ⟨_, h⟩
      · rw [hi]; trivial
      · rw [h]; rw [q] at x2; exact x2
  refine ⟨⟨fun _ _ h => h, fun b o h => ?_, fun b o n h => ?_, fun b h => ?_, fun _ _ _ h => h⟩, fun j b h => own1 h, ⟨by rw [List.length_set]; exact s.len, fun b o h => ?_, fun j t hj => ?_, fun j k b h2 h3 => s.sep j k b (own1 h2) (own1 h3)⟩⟩
  · have : b ≠ p := fun z => by subst z; rw [hb] at h; cases h
    rw [upd_ne this]; exact s.sub b o h
  · have : b ≠ p := fun z => by subst z; exact n ⟨i, op⟩
    rw [upd_ne this]; exact h
  · by_cases z : b = p
    · subst z; rw [upd_same] at h; cases h
    · rw [upd_ne z] at h; exact h
  · have : b ≠ p := fun z => by subst z; rw [hb] at h; cases h
    rw [upd_ne this]; exact s.sub b o h
  · rcases set_get hj with ⟨rfl, rfl⟩ | ⟨ne, hj⟩
    · exact ⟨_, hp, p, xs', rfl, hb, upd_same, g⟩
    · obtain ⟨ov, k1, k2⟩ := s.ent j t hj
      refine ⟨ov, k1, ?_⟩
      have no : ∀ q, ov = some (.ref q) → isOwn (some t) → q ≠ p := fun q e1 e2 z => ne (s.sep i j p op ⟨by rw [k1, e1, z], by rw [hj]; exact e2⟩)
      cases t with
      | no => exact k2
      | dat d => exact k2
      | own ds => obtain ⟨q, ys, q1, q2, q3, q4⟩ := k2; exact ⟨q, ys, q1, q2, by rw [upd_ne (no q q1 trivial)]; exact q3, q4⟩
      | dic ds => obtain ⟨q, ys, q1, q2, q3, q4⟩ := k2; exact ⟨q, ys, q1, q2, by rw [upd_ne (no q q1 trivial)]; exact q3, q4⟩
      | scr ns => exact k2
theorem own_slot {K : PySem.W.Frag} {σ : L2.St} {B H : Hp} {ds : List PyData} (s : Stt K B H Γ σ) (hi : Γ[i]? = some (.own ds)) : ∃ p xs, σ[i]? = some (some (.ref p)) ∧ B p = none ∧ H p = some (.lst xs) ∧ RpAll K B ds xs := by
  obtain ⟨ov, h1, q, xs, e1, hb, hh, g⟩ := s.ent i _ hi
  rw [e1] at h1
  exact ⟨q, xs, h1, hb, hh, g⟩
end
end Bv
set_option Elab.async false
set_option autoImplicit false
set_option linter.all false
set_option maxRecDepth 100000
set_option maxHeartbeats 2000000
/-! Bv8: acts on owned lists and dicts. -/
namespace Bv
open PySem PySem.Spec PyProof.Rows L2

section
variable {X : Cx} {Γ : En} {F : List Nat} {P : Po} {e a b c : Expr} {r r1 r2 : Res} {pos : Pos} {x : Str} {p apos : Pos} {i : Nat} {Φ : Res → En → Prop} {rest : List Stmt}
theorem dic_slot {K : PySem.W.Frag} {σ : L2.St} {B H : Hp} {ds : List (List Key × PyData)} (s : Stt K B H Γ σ) (hi : Γ[i]? = some (.dic ds)) : ∃ p xs, σ[i]? = some (some (.ref p)) ∧ B p = none ∧ H p = some (.dT xs) ∧ RpKv K B ds xs := by
  obtain ⟨ov, h1, q, xs, e1, hb, hh, g⟩ := s.ent i _ hi
  rw [e1] at h1
  exact ⟨q, xs, h1, hb, hh, g⟩
/-- x.append(e) -/
theorem ev_append {ds0 : List PyData} (hN : X.N[i]? = some x) (hv : Vis X.env.scope x) (hi : Γ[i]? = some (.own ds0)) (h : EV X e Γ fun r Γ1 => ∃ d ds, r = .dat d ∧ Γ1[i]? = some (.own ds) ∧ ds.length < sizeLine ∧ Φ (.dat .none) (Γ1.set i (.own (ds ++ [d]))))
    (hd : (x == ("__debug__" : Str)) = false := by decide) (hcd : (x == ("__classdict__" : Str)) = false := by decide)
    (hbase : attributeBase (.Name x p) "append" X.env (eval (.Name x p) X.env) = eval (.Name x p) X.env := by rfl)
    (hfew : ((backTo pos (starEach [e] X.env)).all (fun x => !x.1) && (backToKw pos (keywordEach [] X.env)).all (fun x => x.1.isSome)
      && decide (([e] : List Expr).length + ([] : List Keyword).length + (if ([] : List Keyword).isEmpty then 0 else 1) < 30)) = true := by rfl)
    (hline : (apos.endLine == pos.line) = true := by rfl) (hs : starEach [e] X.env = (false, eval e X.env) :: starEach [] X.env := by rfl) (hplain : (backTo pos (starEach [] X.env)).any (·.1) = false := by rfl) :
    EV X (.Call (.Attribute (.Name x p) "append" apos) [e] [] pos) Γ Φ := by
  intro σ B H s Q q
  obtain ⟨l, xs, hl, hb, hh, g⟩ := own_slot s hi
  refine can_of (pe_bm PySem.F.plainAttrs_list PySem.F.slot_list_append PySem.F.type_list_append mt_append (pe_var hN hv hd hcd) (pa_cons (pe_can (e := e)) pa_nil hs) hbase hfew hline hs hplain) ?_
  refine ⟨.ref l, hl, .inl ⟨rfl, _, SqL.of hh⟩, ?_⟩
  refine h σ B H s _ fun v r Γ1 B1 H1 o1 g1 ⟨d, ds, er, h1, hz, hφ⟩ => ?_
  subst er
  obtain ⟨l', xs', hl', hb', hh', g'⟩ := own_slot o1.st h1
  have el : l' = l := by rw [hl] at hl'; cases hl'; rfl
  subst el
  exact ⟨l', xs', v, rfl, rfl, hh', by rw [← g'.len]; exact hz, q .non (.dat .none) _ B1 _ (o1.trans (Out.write o1.st h1 hl' (g'.app (.cons g1 .nil)))) (show Rp X.K B1 .none V.non from .non) hφ⟩
/-- x.pop() -/
theorem ev_pop {ds0 : List PyData} {d : PyData} (hN : X.N[i]? = some x) (hv : Vis X.env.scope x) (hi : Γ[i]? = some (.own ds0)) (hl : ds0[ds0.length - 1]? = some d) (h : Φ (.dat d) (Γ.set i (.own ds0.dropLast)))
    (hd : (x == ("__debug__" : Str)) = false := by decide) (hcd : (x == ("__classdict__" : Str)) = false := by decide)
    (hbase : attributeBase (.Name x p) "pop" X.env (eval (.Name x p) X.env) = eval (.Name x p) X.env := by rfl) (hline : (apos.endLine == pos.line) = true := by rfl) :
    EV X (.Call (.Attribute (.Name x p) "pop" apos) [] [] pos) Γ Φ := by
  intro σ B H s Q q
  obtain ⟨l, xs, hl', hb, hh, g⟩ := own_slot s hi
  refine can_of (pe_bm0 PySem.F.plainAttrs_list PySem.F.slot_list_pop PySem.F.type_list_pop mt_pop (pe_var hN hv hd hcd) hbase hline) ?_
  refine ⟨.ref l, hl', .inl ⟨rfl, _, SqL.of hh⟩, ?_⟩
  obtain ⟨v, hv', gv⟩ := g.get hl
  exact ⟨l, xs, v, rfl, rfl, hh, by rw [← g.len]; exact hv', q v (.dat d) _ B _ (Out.write s hi hl' g.dropLast) (show Rp X.K B d v from gv) h⟩
/-- x[k] = e -/
theorem sv_setItem {ds0 : List PyData} {ix : Expr} {k : Int} {j : Nat} (hN : X.N[i]? = some x) (hv : Vis X.env.scope x) {d : PyData} (hi : Γ[i]? = some (.own ds0)) (he : BV X e Γ d) (hk : BV X ix Γ (.int k)) (hj : ixN ds0.length k = some j) (hF : True) (h : SV X F rest (Γ.set i (.own (ds0.set j d))) P)
    (hd : (x == ("__debug__" : Str)) = false := by decide) (hcd : (x == ("__classdict__" : Str)) = false := by decide)
    (ha : ∀ v, assign (.Subscript (.Name x p) ix apos) X.env v = (do
      let ov ← holding [v] (eval (.Name x p) X.env)
      let iv ← holding [v, ov] (eval ix X.env)
      standAt apos
      holding [v, ov, iv] (setItem ov iv v)
      release [v, ov, iv] []) := by intro _; rfl)
    (hs : swapsWithSole [.Subscript (.Name x p) ix apos] e pos.line X.env = pure false := by rfl) (hw : swappedStores [.Subscript (.Name x p) ix apos] e X.env = pure none := by rfl)
    (h1 : (assignEach [.Subscript (.Name x p) ix apos] X.env).map (·.2) = [assign (.Subscript (.Name x p) ix apos) X.env] := by rfl) :
    SV X F (.Assign [.Subscript (.Name x p) ix apos] e pos :: rest) Γ P := by
  intro σ B H s D q1 q2 q3 q4
  refine canSs_of (pss_cons (ps_asg (pe_can (e := e)) (pg_sub (pe_var hN hv hd hcd) (pe_can (e := ix)) set_list ha) hs hw h1) (pss_can (ss := rest))) ?_
  refine he σ B H s _ fun v B1 H1 o1 g1 => ?_
  have s1 := s.pur o1
  obtain ⟨l, xs, hl', hb, hh, g⟩ := own_slot s1 hi
  refine ⟨.ref l, hl', ?_⟩
  refine hk σ B1 H1 s1 _ fun w B2 H2 o2 g2 => ?_
  cases g2
  have s2 := s1.pur o2
  obtain ⟨l2, xs2, hl2, hb2, hh2, g2⟩ := own_slot s2 hi
  have el : l2 = l := by rw [hl'] at hl2; cases hl2; rfl
  subst el
  refine ⟨l2, xs2, k, j, rfl, rfl, hh2, by rw [← g2.len]; exact hj, ?_⟩
  have o : Out X.K σ Γ B H _ _ _ := ((o1.trans o2).out s).trans (Out.write s2 hi hl2 (g2.setAt j (Rp.up g1 o2.ex)))
  exact h.from (Out.s o) q1 q2 q3 q4

/-! ### pairs of fresh lists -/
theorem br_pairP {ds ds2 : List PyData} {x1 : Nat} (hN : X.N[i]? = some x) (hv : Vis X.env.scope x) (hi : Γ[i]? = some (.own ds)) (hb : BR X b Γ (.new ds2))
    (hd : (x == ("__debug__" : Str)) = false := by decide) (hcd : (x == ("__classdict__" : Str)) = false := by decide) (he : starEach [.Name x p, b] X.env = (false, eval (.Name x p) X.env) :: starEach [b] X.env := by rfl) (he2 : starEach [b] X.env = (false, eval b X.env) :: starEach [] X.env := by rfl) :
    BR X (.Tuple [.Name x p, b] x1 pos) Γ (.pairP i ds2) := by
  intro σ B H s Q q
  refine can_of (pe_tup (pa_cons (pe_var hN hv hd hcd) (pa_cons (pe_can (e := b)) pa_nil he2) he)) ?_
  obtain ⟨l, xs, hl', hb', hh, g⟩ := own_slot s hi
  refine ⟨.ref l, hl', ?_⟩
  refine hb σ B H s _ fun v B1 H1 o1 ⟨p2, ys, ev, h0, b2, h2, g2⟩ => ?_
  subst ev
  refine ⟨by simp [sizeLine_eq], fun t ht => ?_⟩
  have hne : l ≠ p2 := fun z => by subst z; rw [hh] at h0; cases h0
  have e1 : Same H1 (upd H1 t (.tup [.ref l, .ref p2])) := same_upd ht
  refine q _ B1 _ (o1.trans (.grown o1.sub e1)) ⟨t, l, p2, ys, rfl, o1.heap.free ht, upd_same, hl', by rw [hi]; trivial, hne, h0, b2, e1 _ _ h2, g2⟩
/-- a, b = e, e worth a pair of fresh lists -/
theorem sv_unpair {j : Nat} {tes : List Expr} {kt : Nat} {pt : Pos} (hc : X.calm = true) (hg : PGs X tes (gNames [i, j])) (hF : i ∉ F ∧ j ∉ F) (h : EV X e Γ fun r Γ1 => ∃ ds1 ds2, r = .pair ds1 ds2 ∧ SV X F rest ((Γ1.set i (.own ds1)).set j (.own ds2)) P)
    (hn : (assignEach tes X.env).length = 2 := by rfl) (hst : (assignEach tes X.env).findIdx? (·.1) = none := by rfl)
    (hs : swapsWithSole [.Tuple tes kt pt] e pos.line X.env = pure false := by rfl) (hw : swappedStores [.Tuple tes kt pt] e X.env = pure none := by rfl) (h1 : (assignEach [.Tuple tes kt pt] X.env).map (·.2) = [assign (.Tuple tes kt pt) X.env] := by rfl) :
    SV X F (.Assign [.Tuple tes kt pt] e pos :: rest) Γ P := by
  intro σ B H s D q1 q2 q3 q4
  refine canSs_of (pss_cons (ps_asg (pe_can (e := e)) (pg_tup hc hg hn hst) hs hw h1) (pss_can (ss := rest))) ?_
  refine h σ B H s _ fun v r Γ1 B1 H1 o1 g1 ⟨ds1, ds2, er, hk⟩ => ?_
  subst er
  obtain ⟨t, p, q, xs, ys, ev, t0, ht, n, ⟨p0, pb, ph, pg⟩, h0, hb, hh, g⟩ := g1
  refine ⟨t, _, ev, .of ht, rfl, gNames_run rfl ?_⟩
  have g2 : ResRs X.K H B1 H1 Γ1 σ [.new ds1, .new ds2] [.ref p, .ref q] := ⟨_, _, rfl, ⟨p, xs, rfl, p0, pb, ph, pg⟩, ⟨_, _, rfl, ⟨q, ys, rfl, h0, hb, hh, g⟩, rfl, fun _ j q' z => by simp at z⟩, fun _ j q' z _ => by
    cases j with
    | zero => intro z2; exact n (by cases (Option.some.inj z2); rfl)
    | succ j => simp at z⟩
  have o := (Out.s (F := F) o1).putAll (is := [i, j]) g2 (fun r hr => by rcases List.mem_cons.mp hr with rfl | hr; rfl; rcases List.mem_cons.mp hr with rfl | hr; rfl; cases hr)
    (fun k hk => by rcases List.mem_cons.mp hk with rfl | hk; exact hF.1; rcases List.mem_cons.mp hk with rfl | hk; exact hF.2; cases hk) (new_notOwned s o1 g2)
  exact hk.from o q1 q2 q3 q4

/-! ### dicts -/
def ik (ns : List Int) : List Key := ns.map Sum.inl
def ti (ns : List Int) : PyData := .tuple (ns.map .int)
theorem ik_kV (ns : List Int) : (ik ns).map kV = ns.map V.int := by
  unfold ik
  rw [List.map_map]
  rfl
theorem ti_at {K : PySem.W.Frag} {B : Hp} {ns : List Int} {v : V} (h : Rp K B (ti ns) v) : ∃ t, v = .ref t ∧ B t = some (.tup ((ik ns).map kV)) := by
  cases h with
  | tup h g => exact ⟨_, rfl, by rw [ik_kV, ← g.ints]; exact h⟩
theorem br_newD : BR X (.Dict [] [] pos) Γ (.newD []) := by
  intro σ B H s Q q
  refine can_of pe_dnewT fun p hp => ?_
  have n1 : Same H (upd H p (.dT [])) := same_upd hp
  exact q _ B _ (.grown s.sub n1) ⟨p, [], rfl, hp, s.sub.free hp, upd_same, rfl⟩
def dget (kvs : List (List Key × PyData)) (k : List Key) : Option PyData := (kvs.find? fun kv => decide (kv.1 = k)).map (·.2)
def dput (kvs : List (List Key × PyData)) (k : List Key) (d : PyData) : List (List Key × PyData) :=
  if (kvs.any fun kv => decide (kv.1 = k)) = true then kvs.map (fun kv => if kv.1 = k then (kv.1, d) else kv) else kvs ++ [(k, d)]
theorem RpKv.len {K : PySem.W.Frag} {B : Hp} : ∀ {ks : List (List Key × PyData)} {ys : List (List Key × V)}, RpKv K B ks ys → ys.length = ks.length
  | [], _, h => by cases (show _ = [] from h); rfl
  | _ :: _, _, ⟨v, r, e, _, t⟩ => by subst e; show _ + 1 = _ + 1; rw [RpKv.len t]
theorem RpKv.get {K : PySem.W.Frag} {B : Hp} {k : List Key} : ∀ {ks : List (List Key × PyData)} {ys : List (List Key × V)}, RpKv K B ks ys →
    (dget ks k = none ∧ valV ys k = none) ∨ ∃ d v, dget ks k = some d ∧ valV ys k = some v ∧ Rp K B d v
  | [], _, h => by cases (show _ = [] from h); exact .inl ⟨rfl, rfl⟩
  | p :: ps, _, ⟨v, r, e, g, t⟩ => by
    subst e
    by_cases h : p.1 = k
    · refine .inr ⟨p.2, v, ?_, valV_pos h, g⟩
      unfold dget
      rw [List.find?_cons_of_pos (by simpa using h)]
      rfl
    · rw [valV_neg (p := (p.1, v)) h]
      have e2 : dget (p :: ps) k = dget ps k := by
        unfold dget
        rw [List.find?_cons_of_neg (by simpa using h)]
      rw [e2]
      exact RpKv.get t
theorem RpKv.any {K : PySem.W.Frag} {B : Hp} {k : List Key} : ∀ {ks : List (List Key × PyData)} {ys : List (List Key × V)}, RpKv K B ks ys → (ys.any fun kv => decide (kv.1 = k)) = (ks.any fun kv => decide (kv.1 = k))
  | [], _, h => by cases (show _ = [] from h); rfl
  | p :: ps, _, ⟨v, r, e, g, t⟩ => by subst e; rw [List.any_cons, List.any_cons, RpKv.any t]
theorem RpKv.snoc {K : PySem.W.Frag} {B : Hp} {k : List Key} {d : PyData} {v : V} (hv : Rp K B d v) : ∀ {ks : List (List Key × PyData)} {ys : List (List Key × V)}, RpKv K B ks ys → RpKv K B (ks ++ [(k, d)]) (ys ++ [(k, v)])
  | [], _, h => by cases (show _ = [] from h); exact ⟨v, [], rfl, hv, rfl⟩
  | p :: ps, _, ⟨v', r, e, g, t⟩ => by subst e; exact ⟨v', _, rfl, g, RpKv.snoc hv t⟩
theorem RpKv.repl {K : PySem.W.Frag} {B : Hp} {k : List Key} {d : PyData} {v : V} (hv : Rp K B d v) : ∀ {ks : List (List Key × PyData)} {ys : List (List Key × V)}, RpKv K B ks ys → RpKv K B (ks.map fun kv => if kv.1 = k then (kv.1, d) else kv) (ys.map fun kv => if kv.1 = k then (kv.1, v) else kv)
  | [], _, h => by cases (show _ = [] from h); exact (rfl : ([] : List (List Key × V)) = [])
  | p :: ps, _, ⟨v', r, e, g, t⟩ => by
    subst e
    have ih := RpKv.repl (k := k) hv t
    by_cases h : p.1 = k
    · exact ⟨v, _, by simp [h], by simpa [h] using hv, ih⟩
    · exact ⟨v', _, by simp [h], by simpa [h] using g, ih⟩
theorem RpKv.put {K : PySem.W.Frag} {B : Hp} {k : List Key} {d : PyData} {v : V} {ks : List (List Key × PyData)} {ys : List (List Key × V)} (hv : Rp K B d v) (h : RpKv K B ks ys) : RpKv K B (dput ks k d) (putK ys k v) := by
  unfold dput putK
  rw [h.any (k := k)]
  by_cases a : (ks.any fun kv => decide (kv.1 = k)) = true
  · rw [if_pos a, if_pos a]
    exact h.repl hv
  · rw [if_neg a, if_neg a]
    exact h.snoc hv
/-- k in d -/
theorem bt_din {ns : List Int} {kvs : List (List Key × PyData)} (hu : X.A.units + 1 < cLine) (ha : BV X a Γ (ti ns)) (hb : BR X b Γ r2) (hd : dicOf Γ r2 = some kvs) (hm : behindInMarks .In b = false := by rfl) : BT X (.Compare a [.In] [b] pos) Γ (dget kvs (ik ns)).isSome := by
  intro σ B H s Q q
  refine canT_of (pt_cmp (pc_din hu (pe_can (e := a)) (pe_can (e := b))) hm) ?_
  refine two (k := fun v1 v2 H2 => ∃ p o, v2 = .ref p ∧ DGet H2 p v1 o ∧ ∃ k, V.bl o.isSome = .bl k ∧ Q k H2) ha hb s fun v1 v2 B2 H2 o g1 g2 => ?_
  obtain ⟨t, e1, h1⟩ := ti_at g1
  obtain ⟨p, ys, e2, h2, g⟩ := dic_at (s.pur o) g2 hd
  subst e1
  refine ⟨p, valV ys (ik ns), e2, DGet.t h2 (o.sub _ _ h1), _, rfl, ?_⟩
  have e3 : (valV ys (ik ns)).isSome = (dget kvs (ik ns)).isSome := by
    rcases g.get (k := ik ns) with ⟨z1, z2⟩ | ⟨d, v, z1, z2, _⟩
    · rw [z1, z2]; rfl
    · rw [z1, z2]; rfl
  rw [e3]
  exact q H2 o.heap
theorem bt_dnotIn {ns : List Int} {kvs : List (List Key × PyData)} (hu : X.A.units + 1 < cLine) (ha : BV X a Γ (ti ns)) (hb : BR X b Γ r2) (hd : dicOf Γ r2 = some kvs) (hm : behindInMarks .NotIn b = false := by rfl) : BT X (.Compare a [.NotIn] [b] pos) Γ (!(dget kvs (ik ns)).isSome) := by
  intro σ B H s Q q
  refine canT_of (pt_cmp (pc_dnotin hu (pe_can (e := a)) (pe_can (e := b))) hm) ?_
  refine two (k := fun v1 v2 H2 => ∃ p o, v2 = .ref p ∧ DGet H2 p v1 o ∧ ∃ k, V.bl (!o.isSome) = .bl k ∧ Q k H2) ha hb s fun v1 v2 B2 H2 o g1 g2 => ?_
  obtain ⟨t, e1, h1⟩ := ti_at g1
  obtain ⟨p, ys, e2, h2, g⟩ := dic_at (s.pur o) g2 hd
  subst e1
  refine ⟨p, valV ys (ik ns), e2, DGet.t h2 (o.sub _ _ h1), _, rfl, ?_⟩
  have e3 : (valV ys (ik ns)).isSome = (dget kvs (ik ns)).isSome := by
    rcases g.get (k := ik ns) with ⟨z1, z2⟩ | ⟨d, v, z1, z2, _⟩
    · rw [z1, z2]; rfl
    · rw [z1, z2]; rfl
  rw [e3]
  exact q H2 o.heap
/-- d[k] -/
theorem bv_dget {ns : List Int} {kvs : List (List Key × PyData)} {d : PyData} (hu : X.A.units + 1 < cLine) (ha : BR X a Γ r1) (hd : dicOf Γ r1 = some kvs) (hb : BV X b Γ (ti ns)) (hg : dget kvs (ik ns) = some d) (hs : NoSl b) : BV X (.Subscript a b pos) Γ d := by
  intro σ B H s Q q
  refine can_of (pe_dget hu (pe_can (e := a)) (pe_can (e := b)) hs) ?_
  refine two (k := fun v1 v2 H2 => ∃ p v, v1 = .ref p ∧ DGet H2 p v2 (some v) ∧ Q v H2) ha hb s fun v1 v2 B2 H2 o g1 g2 => ?_
  obtain ⟨t, e1, h1⟩ := ti_at g2
  obtain ⟨p, ys, e2, h2, g⟩ := dic_at (s.pur o) g1 hd
  subst e1
  rcases g.get (k := ik ns) with ⟨z1, z2⟩ | ⟨d', v, z1, z2, z3⟩
  · rw [z1] at hg; cases hg
  · rw [z1] at hg
    have ed := Option.some.inj hg
    subst ed
    refine ⟨p, v, e2, ?_, q v B2 H2 o z3⟩
    have := DGet.t h2 (o.sub _ _ h1)
    rw [z2] at this
    exact this
/-- an owned dict written -/
theorem Out.writeD {K : PySem.W.Frag} {σ : L2.St} {B H : Hp} {ds ds' : List (List Key × PyData)} {p : Addr} {xs' : List (List Key × V)} (s : Stt K B H Γ σ) (hi : Γ[i]? = some (.dic ds)) (hp : σ[i]? = some (some (.ref p))) (g : RpKv K B ds' xs') : Out K σ Γ B H (Γ.set i (.dic ds')) B (upd H p (.dT xs')) := by
  obtain ⟨ov, h1, q, xs, e1, hb, hh, _⟩ := s.ent i _ hi
  rw [hp] at h1
  cases h1
  cases e1
  have op : ownAt Γ σ i p := ⟨hp, by rw [hi]; trivial⟩
  have own1 : ∀ {j : Nat} {a : Addr}, ownAt (Γ.set i (.dic ds')) σ j a → ownAt Γ σ j a := fun {j a} ⟨x1, x2⟩ => by
    refine ⟨x1, ?_⟩
    cases q : (Γ.set i (.dic ds'))[j]? with
    | none => rw [q] at x2; exact x2.elim
    | some t =>
      rcases set_get q with ⟨rfl, _⟩ | ⟨_, h⟩
      · rw [hi]; trivial
      · rw [h]; rw [q] at x2; exact x2
  refine ⟨⟨fun _ _ h => h, fun b o h => ?_, fun b o n h => ?_, fun b h => ?_, fun _ _ _ h => h⟩, fun j b h => own1 h, ⟨by rw [List.length_set]; exact s.len, fun b o h => ?_, fun j t hj => ?_, fun j k b h2 h3 => s.sep j k b (own1 h2) (own1 h3)⟩⟩
  · have : b ≠ p := fun z => by subst z; rw [hb] at h; cases h
    rw [upd_ne this]; exact s.sub b o h
  · have : b ≠ p := fun z => by subst z; exact n ⟨i, op⟩
    rw [upd_ne this]; exact h
  · by_cases z : b = p
    · subst z; rw [upd_same] at h; cases h
    · rw [upd_ne z] at h; exact h
  · have : b ≠ p := fun z => by subst z; rw [hb] at h; cases h
    rw [upd_ne this]; exact s.sub b o h
  · rcases set_get hj with ⟨rfl, rfl⟩ | ⟨ne, hj⟩
    · exact ⟨_, hp, p, xs', rfl, hb, upd_same, g⟩
    · obtain ⟨ov, k1, k2⟩ := s.ent j t hj
      refine ⟨ov, k1, ?_⟩
      have no : ∀ q, ov = some (.ref q) → isOwn (some t) → q ≠ p := fun q e1 e2 z => ne (s.sep i j p op ⟨by rw [k1, e1, z], by rw [hj]; exact e2⟩)
      cases t with
      | no => exact k2
      | dat d => exact k2
      | own ds => obtain ⟨q, ys, q1, q2, q3, q4⟩ := k2; exact ⟨q, ys, q1, q2, by rw [upd_ne (no q q1 trivial)]; exact q3, q4⟩
      | dic ds => obtain ⟨q, ys, q1, q2, q3, q4⟩ := k2; exact ⟨q, ys, q1, q2, by rw [upd_ne (no q q1 trivial)]; exact q3, q4⟩
      | scr ns => exact k2
/-- x[k] = e, x an owned dict -/
theorem sv_dput {kvs : List (List Key × PyData)} {ns : List Int} {d : PyData} (hu : X.A.units + 1 < cLine) (hN : X.N[i]? = some x) (hv : Vis X.env.scope x) (hi : Γ[i]? = some (.dic kvs)) (he : BV X e Γ d) (hk : BV X b Γ (ti ns)) (hl : kvs.length < sizeLine) (h : SV X F rest (Γ.set i (.dic (dput kvs (ik ns) d))) P)
    (hd : (x == ("__debug__" : Str)) = false := by decide) (hcd : (x == ("__classdict__" : Str)) = false := by decide)
    (hs : swapsWith e (some (.Subscript (.Name x p) b apos)) pos.line X.env = pure false := by rfl) :
    SV X F (.Assign [.Subscript (.Name x p) b apos] e pos :: rest) Γ P := by
  intro σ B H s D q1 q2 q3 q4
  refine canSs_of (pss_cons (ps_dput hu (pe_var hN hv hd hcd) (pe_can (e := b)) (pe_can (e := e)) hs) (pss_can (ss := rest))) ?_
  refine he σ B H s _ fun v B1 H1 o1 g1 => ?_
  have s1 := s.pur o1
  obtain ⟨l, xs, hl', hb, hh, g⟩ := dic_slot s1 hi
  refine ⟨.ref l, hl', ?_⟩
  refine hk σ B1 H1 s1 _ fun w B2 H2 o2 g2 => ?_
  obtain ⟨t, ew, ht⟩ := ti_at g2
  subst ew
  have s2 := s1.pur o2
  obtain ⟨l2, xs2, hl2, hb2, hh2, g3⟩ := dic_slot s2 hi
  have el : l2 = l := by rw [hl'] at hl2; cases hl2; rfl
  subst el
  refine ⟨l2, _, rfl, DPut.t hh2 (o2.sub _ _ ht) (by rw [g3.len]; exact hl), ?_⟩
  have o : Out X.K σ Γ B H _ _ _ := ((o1.trans o2).out s).trans (Out.writeD s2 hi hl2 (g3.put (k := ik ns) (Rp.up g1 o2.ex)))
  exact h.from (Out.s o) q1 q2 q3 q4
end
end Bv
set_option Elab.async false
set_option autoImplicit false
set_option linter.all false
set_option maxRecDepth 100000
set_option maxHeartbeats 2000000
/-! Bv9: rules that the hand layer lacks: dict(pairs) and a display with a tuple for key; a call with keywords alone. -/
namespace Bv
open PySem PySem.Spec PyProof.Rows L2

abbrev Quad := Addr × List Key × Addr × V
def mergeT (kvs more : List (List Key × V)) : List (List Key × V) := more.foldl (fun acc kv => putK acc kv.1 kv.2) kvs
theorem KT.merge {H : Hp} : ∀ {ps : List (List Key × Addr × Value)} {more kvs : List (List Key × V)} {xs : List (List Key × Addr × Value)}, KT H more ps → KT H kvs xs → KT H (mergeT kvs more) (storedAllH xs ps)
  | _, _, _, _, .nil, r => r
  | _, _, _, _, .cons (a := p) (b := q) h t, r => by
    have e := r.put (k := p.1) h.2.1 h.2.2
    rw [h.1] at e
    have := KT.merge t e
    show KT _ (mergeT (putK _ p.1 p.2) _) (storedAllH (storedH _ q.1 q.2.1 q.2.2) _)
    rw [h.1]
    exact this
theorem length_mergeT : ∀ (more kvs : List (List Key × V)), (mergeT kvs more).length ≤ kvs.length + more.length
  | [], kvs => by show kvs.length ≤ kvs.length + 0; omega
  | p :: r, kvs => by
    have h1 := length_mergeT r (putK kvs p.1 p.2)
    have h2 := length_putK kvs p.1 p.2
    show (mergeT (putK kvs p.1 p.2) r).length ≤ _
    rw [List.length_cons]; omega
section
variable {X : Cx} {pins : List (Addr × Obj)} {σ : L2.St} {H : Hp} {s : Shared}
theorem quads_of (I : Inv X pins σ H s) : ∀ {qs : List Quad}, (∀ q ∈ qs, H q.1 = some (.tup [.ref q.2.2.1, q.2.2.2]) ∧ H q.2.2.1 = some (.tup (q.2.1.map kV))) →
    ∃ ps : List (List Key × Addr × Value), KT H (qs.map fun q => (q.2.1, q.2.2.2)) ps ∧ ps.length = qs.length ∧ ∀ (j : Nat) (p : List Key × Addr × Value), ps[j]? = some p → ∃ q, qs[j]? = some q ∧ PairAt s.heap q.1 (.ref p.2.1) p.2.2
  | [], _ => ⟨[], .nil, rfl, fun j p e => by simp at e⟩
  | q :: qs, h => by
    obtain ⟨ps, r, hl, hp⟩ := quads_of I fun z hz => h z (List.mem_cons_of_mem _ hz)
    obtain ⟨h1, h2⟩ := h q List.mem_cons_self
    obtain ⟨its, rv, ht, _⟩ := I.tuple (SqT.of h1)
    obtain ⟨u, y, ei, ru, ry⟩ := vals2 rv
    subst ei
    cases (show u = Value.ref q.2.2.1 from ru)
    refine ⟨(q.2.1, q.2.2.1, y) :: ps, .cons ⟨rfl, h2, ry⟩ r, by rw [List.length_cons, List.length_cons, hl], fun j p e => ?_⟩
    cases j with
    | zero =>
      have e' := Option.some.inj e
      subst e'
      exact ⟨q, rfl, .inl ht⟩
    | succ j =>
      obtain ⟨q', e1, e2⟩ := hp j p (by simpa using e)
      exact ⟨q', by simpa using e1, e2⟩
theorem key_keep {h' : Heap} {k : List Key} {b : Addr} (I : Inv X pins σ H s) (e : H b = some (.tup (k.map kV))) (hk : ∀ c o, c ≠ s.heap.objs.size → s.heap.get? c = some o → h'.get? c = some o) : (tupleKind (mixKind X.prog X.w)).is h' k b := by
  obtain ⟨o, its, n, h1, h2, h3, h4⟩ := key_of I.hok e
  exact ⟨o, its, n, hk _ _ (Nat.ne_of_lt (Heap.lt_size h1)) h1, h2, h3, h4⟩
/-- dict(xs) of a list of pairs whose keys are tuples -/
theorem call_dictT (hcalm : X.calm = true) (hu : X.A.units + 2 < cLine) : CallR X (.type "dict") (fun xs H Q => ∃ (a : Addr) (qs : List Quad), xs = [.ref a] ∧ SqL X.K H a (qs.map fun q => V.ref q.1) ∧
    (∀ q ∈ qs, H q.1 = some (.tup [.ref q.2.2.1, q.2.2.2]) ∧ H q.2.2.1 = some (.tup (q.2.1.map kV))) ∧
    ∀ p, H p = none → Q (.ref p) (upd H p (.dT (mergeT [] (qs.map fun q => (q.2.1, q.2.2.2)))))) := by
  intro pins s σ H xs us Q I r q
  obtain ⟨a, qs, ex, hq, hp, q⟩ := q
  subst ex
  obtain ⟨u, eu, rx⟩ := vals1 r
  subst eu
  cases rx
  obtain ⟨its, rv, pl, hz⟩ := I.list hq
  have ei : its = (qs.map (·.1)).map Value.ref := refs_at (by rw [List.map_map]; exact rv)
  subst ei
  rw [List.length_map] at hz
  obtain ⟨ps, rel, hl, hpr⟩ := quads_of I hp
  obtain ⟨o, n, ho, hc, hd, hdat⟩ := pl
  have hget : ∀ j (h : j < qs.length), ((qs.map (·.1))[j]?).getD 0 = (qs[j]).1 := fun j h => by
    rw [List.getElem?_map, List.getElem?_eq_getElem h]
    rfl
  refine call_dict_pairsH (knd := tupleKind (mixKind X.prog X.w)) (ps := ps) (PairArg.list a ((qs.map (·.1)).map Value.ref).toArray (fun j => ((qs.map (·.1))[j]?).getD 0) (ps.map fun p => (.ref p.2.1, p.2.2))) (I.ok.hd hcalm) (tupleKind_room_in1 (A := X.A.in1) hu)
    ⟨⟨o, n, ho, hc, hd, hdat⟩, by simp [hl], fun j k v e => ?_⟩ ⟨by rw [List.length_map], fun i key v e => ?_⟩ (fun h' hk x hx => ?_) (by rw [List.length_map, hl]; exact hz) fun h' tk hd' k => ?_
  · rw [List.getElem?_map] at e
    cases e2 : ps[j]? with
    | none => rw [e2] at e; cases e
    | some p =>
      rw [e2] at e
      have e3 : (Value.ref p.2.1, p.2.2) = (k, v) := Option.some.inj e
      cases e3
      obtain ⟨q', h1, h2⟩ := hpr j p e2
      have hj : j < qs.length := (List.getElem?_eq_some_iff.mp h1).1
      have e4 : qs[j] = q' := (List.getElem?_eq_some_iff.mp h1).2
      refine ⟨?_, ?_⟩
      · show ((qs.map (·.1)).map Value.ref).toArray[j]? = some (.ref (((qs.map (·.1))[j]?).getD 0))
        rw [hget j hj]
        simp [h1, e4]
      · show PairAt s.heap (((qs.map (·.1))[j]?).getD 0) _ _
        rw [hget j hj, e4]
        exact h2
  · have e : (ps.map fun p => (Value.ref p.2.1, p.2.2))[i]? = some (key, v) := e
    rw [List.getElem?_map] at e
    cases e2 : ps[i]? with
    | none => rw [e2] at e; cases e
    | some p =>
      rw [e2] at e
      have e3 : (Value.ref p.2.1, p.2.2) = (key, v) := Option.some.inj e
      cases e3
      exact ⟨p.1, p.2.1, rfl, rfl⟩
  · have all : ∀ {l : List (List Key × V)} {m : List (List Key × Addr × Value)}, KT H l m → ∀ x ∈ m, H x.2.1 = some (.tup (x.1.map kV)) := by
      intro l m q
      induction q with
      | nil => intro x hx; exact nomatch hx
      | @cons p q ps qs hq t ih =>
        intro x hx
        rcases List.mem_cons.mp hx with e | hx
        · subst e
          rw [← hq.1]
          exact hq.2.1
        · exact ih x hx
    exact key_keep I (all rel x hx) fun c o h1 h2 => hk c o h1 (fun z => nomatch z) h2
  · have hm : (s.heap.objs.size == sysModules) = false := beq_eq_false_iff_ne.mpr (Nat.ne_of_gt I.big)
    have hlen : (mergeT [] (qs.map fun q => (q.2.1, q.2.2.2))).length ≤ sizeLine := by
      refine Nat.le_trans (length_mergeT _ []) ?_
      rw [List.length_nil, Nat.zero_add, List.length_map]
      exact hz
    obtain ⟨q0, es, ep, hq0, h2, h3, h4, _, h5⟩ := hd'
    have hn := I.hok.fresh (Nat.le_refl s.heap.objs.size)
    refine ⟨.ref s.heap.objs.size, upd H s.heap.objs.size (.dT _), I.laid (t' := tk) (fun b o e => k b o (fun z => nomatch z) e) (Nat.le_refl _) ⟨hlen, hm, _, (KT.merge rel .nil).keeps fun c ys ec => ?_, q0, es, ep, hq0, h2, h3, h4, h5⟩, rfl, q _ hn⟩
    rw [upd_ne (ne_of_none ec hn)]
    exact ec
/-- {k: v}, k a tuple -/
def tDisp1T (tk tv : TE) : TE := fun σ H Q => ∀ p, H p = none → tk σ (upd H p (.dT [])) fun x H1 => tv σ H1 fun y H2 => H2 p = some (.dT []) ∧ ∃ b k, x = .ref b ∧ H2 b = some (.tup (List.map kV k)) ∧ Q (.ref p) (upd H2 p (.dT [(k, y)]))
theorem pe_disp1T {pos : Pos} {k v : Expr} {tk tv : TE} (hu : X.A.units < cLine) (hk : PE X k tk) (hv : PE X v tv) : PE X (.Dict [some k] [v] pos) (tDisp1T tk tv) := by
  refine ⟨fun pins s σ H Q I q => ?_⟩
  have hn := I.hok.fresh (Nat.le_refl s.heap.objs.size)
  have I1 := I.laid (a := s.heap.objs.size) (o := .dT []) (h' := s.heap.push { cls := .type "dict", data := .dict #[] }) (t' := s.toks) (fun _ _ q => Heap.get?_push_of_some _ q) (Nat.le_refl _) (dt_empty s.heap I.big)
  have hsh := zip_pairTrees [some k] [v] X.env pos rfl rfl
  have hlen : (pairTrees [some k] [v] X.env pos).length = 1 := pairTrees_length [some k] [v] X.env pos rfl rfl
  have hne : pairTrees [some k] [v] X.env pos ≠ [] := fun z => by rw [z] at hlen; cases hlen
  rw [arm_eval_Dict, hsh, dictDisplay_pairs _ hne (by omega)]
  refine wpAny_bind (wpAny_standAt (wpAny_bind (wpAny_subDictH (knd := tupleKind (mixKind X.prog X.w)) (Q := fun d s' => wpAny (model X.prog X.w) X.A (pure (Value.ref d)) (EP X pins σ Q) X.xe s') hu (by omega) ?_)))
  refine pairTrees_cons_walk (thn (hk.run pins _ σ _ _ I1 (q _ hn)) fun u s1 ⟨x, H1, I2, rx, q1⟩ => thn (hv.run pins s1 σ H1 _ I2 q1) fun w2 s2 ⟨y, H2, I3, ry, hp, b, ks, ex, hb, q2⟩ => pairTrees_nil_walk ?_)
  subst ex
  cases (show u = Value.ref b from rx)
  obtain ⟨z, hd, xs, r0, dd⟩ := dt_of I3.hok hp
  cases r0
  refine ⟨[(ks, b, w2)], ⟨rfl, rfl, key_of I3.hok hb, trivial⟩, dd, fun h' tk' dd' hs => wpAny_pure ⟨.ref s.heap.objs.size, _, ?_, rfl, q2⟩⟩
  obtain ⟨q0, es, ep, hq0, h2, h3, h4, _, h5⟩ := dd'
  refine d_write I3 (by rw [hp]; exact True.intro) hs ⟨q0, hq0⟩ ⟨by rw [sizeLine_eq]; show 1 ≤ _; decide, hd, _, (KT.merge (more := [(ks, y)]) (kvs := []) (.cons ⟨rfl, hb, ry⟩ .nil) .nil).keeps fun c ys ec => ?_, q0, es, ep, hq0, h2, h3, h4, h5⟩
  rw [upd_ne (ne_of ec hp (fun z => nomatch z))]
  exact ec
end
/-- f(k = v, ..) -/
theorem pe_callK0 {X : Cx} {CX : CXT} {k : Nat} {f : Addr} {fd : FuncData} {ps ks : List Str} {sp : Sp} {E : XK} {x : Str} {p pos : Pos} {kws : List Keyword} {tk : TA} {g : List Value → List Value → List Value} {gV : List V → List V → List V}
    (F : FnOk X.prog X.w X.K X.mg X.base CX k f fd ps sp) (hr : Room k X.A) (hg : Gl X x) (hm : X.mg x = some (.ref f)) (hk : PySem.W.keepIn X.K (.ref f) = true) (hb : KBinds X.K fd ps ks g gV) (hx : Passes CX X E)
    (hkw : PK X kws tk) (hall : (backToKw pos (keywordEach kws X.env)).all (·.1.isSome) = true := by rfl) (hks : (backToKw pos (keywordEach kws X.env)).filterMap (·.1) = ks := by rfl)
    (hdb : (x == ("__debug__" : Str)) = false := by decide)
    (hpl : ((backTo pos (starEach [] X.env)).any (·.1) || (backToKw pos (keywordEach kws X.env)).any (·.1.isNone)) = false := by rfl) :
    PE X (.Call (.Name x p) [] kws pos) (tCallK sp gV E tNil tk) := by
  refine ⟨fun pins s σ H Q I h => ?_⟩
  refine wpAny_Call_Name_kw (ld_glob I hg hm ?_ hdb)
  refine PySem.W.callWith_KW0 (h₀ := X.base) I.ok.mod.kin hk hall ?_ hpl
  refine thn (hkw.run pos pins s σ H _ I h) fun ws s2 ⟨zs, H2, I2, rz, q2⟩ => ⟨I2.kIn, ?_⟩
  rw [hks]
  exact run_fnk (us := []) (vs := []) F hr hb hx I2 .nil rz q2
end Bv
set_option Elab.async false
set_option autoImplicit false
set_option linter.all false
set_option maxRecDepth 100000
set_option maxHeartbeats 2000000
/-! Bv10: by value: a comprehension stored at once, dicts of pairs, keyword calls, isinstance of a tuple, sorted rows, repr. -/
namespace Bv
open PySem PySem.Spec PyProof.Rows L2

section
variable {X : Cx} {Γ : En} {F : List Nat} {P : Po} {e a b c : Expr} {r r1 r2 : Res} {pos : Pos} {x : Str} {p : Pos} {i : Nat} {Φ : Res → En → Prop} {rest : List Stmt}
/-- y = [..] on one line, y a local -/
theorem sv_setLc {α : Type} {y : Str} {py spos : Pos} {elt tg iter : Expr} {ifs : List Expr} {scope : Scope} {own : List (Str × Nat)} {wi : TI} {L : List α} {enc : α → PyData} {is : List Nat} {sp : α → List PyData} {keep : α → Bool} {f : α → PyData} (hc : X.calm = true) (hN : X.N.Nodup) (hy : X.N[i]? = some y)
    (hyl : X.env.scope.names.lookup y = some .local) (hF : i ∉ F) (hsw : swapsWith (.ListComp elt [⟨tg, iter, ifs, 0⟩] scope pos) (some (.Name y py)) spos.line X.env = pure true) (hi : PI X tg iter wi) (src : Gives X wi Γ (L.map enc)) (ok : BlkOk X.N X.env.scope scope own) (his : ∀ i ∈ is, i ∈ own.map (·.2))
    (ht : ∀ x ∈ L, ∀ Y, BlkX X scope Y → BG Y tg is (enc x) (sp x) ∧ BTs Y ifs (setDat (wipeE Γ (own.map (·.2))) is (sp x)) (keep x) ∧ (keep x = true → BV Y elt (setDat (wipeE Γ (own.map (·.2))) is (sp x)) (f x))) (hz : L.length ≤ sizeLine)
    (k : SV X F rest (Γ.set i (.own ((L.filter keep).map f))) P) (hs : ∀ x, foldedSetIterable iter X.env x = pure x := by intro _; rfl) :
    SV X F (.Assign [.Name y py] (.ListComp elt [⟨tg, iter, ifs, 0⟩] scope pos) spos :: rest) Γ P := by
  intro σ B H s D q1 q2 q3 q4
  refine canSs_of (pss_cons (ps_setLc hc hN hy hyl hsw hi ok blk_g blk_t blk_e hs) (pss_can (ss := rest))) ?_
  show tLc _ _ _ _ _ σ H (fun v H1 => tCanSs X rest D (σ.set i (some v)) H1)
  refine lc_read src his ht hz s fun v B1 H1 o1 g1 => ?_
  have o := (o1.s (F := F) s).put (i := i) (r := .new _) (entOf_R g1) (fun z a ea => ⟨entOf_new g1 z a ea, fun ⟨k, hk⟩ => (s.there ⟨k, hk⟩).1 (entOf_new g1 z a ea)⟩) hF
  exact k.from o q1 q2 q3 q4
/-- {k: v} -/
theorem br_disp1 {ns : List Int} {d : PyData} (hu : X.A.units < cLine) (ha : BV X a Γ (ti ns)) (hb : BV X b Γ d) : BR X (.Dict [some a] [b] pos) Γ (.newD [(ik ns, d)]) := by
  intro σ B H s Q q
  refine can_of (pe_disp1T hu (pe_can (e := a)) (pe_can (e := b))) fun p hp => ?_
  have n1 : Same H (upd H p (.dT [])) := same_upd hp
  have o0 : Pur B H B (upd H p (.dT [])) := .grown s.sub n1
  refine two (k := fun v1 v2 H2 => H2 p = some (.dT []) ∧ ∃ t k, v1 = .ref t ∧ H2 t = some (.tup (List.map kV k)) ∧ Q (.ref p) (upd H2 p (.dT [(k, v2)]))) ha hb (s.pur o0) fun v1 v2 B2 H2 o g1 g2 => ?_
  obtain ⟨t, e1, h1⟩ := ti_at g1
  have hpp : H2 p = some (.dT []) := o.heap _ _ upd_same
  refine ⟨hpp, t, ik ns, e1, o.sub _ _ h1, ?_⟩
  have nB : B2 p = none := o.new p (by rw [upd_same]; exact (fun z => nomatch z)) (s.sub.free hp)
  have sub2 : Same B2 (upd H2 p (.dT [(ik ns, v2)])) := fun b z hz => by
    have : b ≠ p := fun q => by subst q; rw [nB] at hz; cases hz
    rw [upd_ne this]; exact o.sub b z hz
  refine q _ B2 _ ⟨fun b z hz => ?_, o.ex, sub2, fun b hb1 hb2 => o.new b (fun z => hb1 (n1.free z)) hb2⟩ ⟨p, _, rfl, hp, nB, upd_same, v2, [], rfl, g2, rfl⟩
  have : b ≠ p := fun q => by subst q; rw [hp] at hz; cases hz
  rw [upd_ne this]
  exact o.heap b z (n1 b z hz)
/-- dict(xs), xs pairs (tuple of ints, value) -/
def dmerge (kvs : List (List Key × PyData)) (ps : List (List Int × PyData)) : List (List Key × PyData) := ps.foldl (fun acc q => dput acc (ik q.1) q.2) kvs
theorem br_dictT {ps : List (List Int × PyData)} (hc : X.calm = true) (hu : X.A.units + 2 < cLine) (hg : Gl X "dict") (hm : X.mg "dict" = none) (ha : BR X a Γ r1) (hl : listOf Γ r1 = some (ps.map fun q => .tuple [ti q.1, q.2]))
    (he : starEach [a] X.env = (false, eval a X.env) :: starEach [] X.env := by rfl) (hpl : (backTo pos (starEach [] X.env)).any (·.1) = false := by rfl) : BR X (.Call (.Name "dict" p) [a] [] pos) Γ (.newD (dmerge [] ps)) :=
  br_t1 (call_dictT hc hu) hg hm (by decide +kernel) ha (fun σ H0 B H v s g Q q => by
    obtain ⟨l, xs, rfl, h1, g1⟩ := list_at s g hl
    have key : ∀ (ps : List (List Int × PyData)) (xs : List V), RpAll X.K B (ps.map fun q => .tuple [ti q.1, q.2]) xs → ∃ qs : List Quad, xs = qs.map (fun q => V.ref q.1) ∧ (∀ q ∈ qs, B q.1 = some (.tup [.ref q.2.2.1, q.2.2.2]) ∧ B q.2.2.1 = some (.tup (q.2.1.map kV))) ∧
        ∀ (kvs : List (List Key × PyData)) (ys : List (List Key × V)), RpKv X.K B kvs ys → RpKv X.K B (dmerge kvs ps) (mergeT ys (qs.map fun q => (q.2.1, q.2.2.2))) := by
      intro ps
      induction ps with
      | nil => intro xs h; cases h; exact ⟨[], rfl, fun q hq => (nomatch hq), fun kvs ys h => h⟩
      | cons p ps ih =>
        intro xs h
        cases h with
        | cons h t =>
          obtain ⟨qs, e, h2, h3⟩ := ih _ t
          cases h with
          | @tup T ws _ hT gT =>
            cases gT with
            | cons gk gt =>
              cases gt with
              | cons gv gn =>
                cases gn
                rename_i vk vv
                obtain ⟨kb, ek, hk⟩ := ti_at gk
                subst ek
                refine ⟨(T, ik p.1, kb, vv) :: qs, by rw [List.map_cons, ← e], fun q hq => ?_, fun kvs ys h => h3 _ _ (h.put gv)⟩
                rcases List.mem_cons.mp hq with rfl | hq
                · exact ⟨hT, hk⟩
                · exact h2 q hq
    obtain ⟨qs, e, h2, h3⟩ := key ps xs (g1)
    subst e
    refine ⟨l, qs, rfl, .of h1, fun q hq => ⟨s.sub _ _ (h2 q hq).1, s.sub _ _ (h2 q hq).2⟩, fun t ht => ?_⟩
    exact q _ B _ (.grown s.sub (same_upd ht)) ⟨t, _, rfl, ht, s.sub.free ht, upd_same, h3 [] [] rfl⟩) (by decide) (by decide) he hpl

/-! ### sorted rows -/
def row (ns : List Int) : PyData := .list (ns.map .int)
def rowLe (p q : List Int) : Bool := decide (p ≤ q)
theorem row_lay (ns : List Int) : (row ns).canLay0 = true := by
  unfold row PyData.canLay0
  induction ns with
  | nil => rfl
  | cons n ns ih => rw [List.map_cons]; unfold PyData.canLayAll0; rw [ih]; rfl
theorem row_depth (ns : List Int) : (row ns).depth = 1 := by
  unfold row PyData.depth
  rw [PySem.W.depth_ints]
def rSortR (K : PySem.W.Frag) : List V → Hp → VK → Prop := fun vs H Q => ∃ (a : Addr) (xs : List V) (rows : List (List Int)) (B : Hp), vs = [V.ref a] ∧ SqL K H a xs ∧ Same B H ∧ RpAll K B (rows.map row) xs ∧ rows.length ≤ sizeLine ∧
  ∀ ys p, RpAll K B ((rows.mergeSort rowLe).map row) ys → H p = none → Q (.ref p) (upd H p (.lst ys))
theorem each_of {R : Value → List Int → Prop} {K : PySem.W.Frag} {B : Hp} (h : ∀ ns v u, Rp K B (row ns) v → RelV v u → R u ns) : ∀ {rows : List (List Int)} {xs : List V} {us : List Value}, RpAll K B (rows.map row) xs → Vals xs us → PySem.W.EachIs R us rows
  | [], _, _, g, r => by cases g; cases r; exact .nil
  | n :: rows, _, _, g, r => by
    cases g with
    | cons g1 g2 =>
      cases r with
      | cons r1 r2 => exact .cons (h _ _ _ g1 r1) (each_of h g2 r2)
theorem each_to {K : PySem.W.Frag} {B : Hp} : ∀ {rows : List (List Int)} {us : List Value}, PySem.W.EachIs (fun u ns => ∃ v, RelV v u ∧ Rp K B (row ns) v) us rows → ∃ xs, Vals xs us ∧ RpAll K B (rows.map row) xs
  | [], _, g => by cases g; exact ⟨[], .nil, .nil⟩
  | n :: rows, _, g => by
    cases g with
    | cons g1 g2 =>
      obtain ⟨v, r1, r2⟩ := g1
      obtain ⟨xs, r3, r4⟩ := each_to g2
      exact ⟨v :: xs, .cons r1 r3, .cons r2 r4⟩
theorem cr_sortedR (hu : X.A.units + 3 < cLine) : CallR X (.builtin "sorted") (rSortR X.K) := by
  intro pins s σ H vs us Q I r h
  obtain ⟨a, xs, rows, B, rfl, hs, sub, g, hz, q⟩ := h
  obtain ⟨its, rv, hl, _⟩ := I.list hs
  rw [Vals.ref1 r]
  have e := each_of (R := fun u ns => ∃ v, RelV v u ∧ Rp X.K B (row ns) v) (fun ns v u h1 h2 => ⟨v, h2, h1⟩) g rv
  have er := each_of (R := fun u ns => ∃ as, Reads s.heap u (row ns) as) (fun ns v u h1 h2 => Dp.reads I _ v u (Rp.dp _ _ (Rp.up h1 sub) (row_lay ns)) h2) g rv
  refine PySem.W.sorted_data (enc := row) (bs := rows) hl.isList e er (PySem.W.AllAlike.of fun b b' => ?_) (PySem.W.Sortable.others fun b => ⟨fun z => ?_, fun xs z => ?_⟩) hz (fun b _ => by rw [row_depth]; omega) fun out ho eo => ?_
  · unfold row PySem.W.alike; exact PySem.W.alike_ints _ _
  · cases z
  · cases z
  · rw [show PySem.W.dataLe false row = rowLe from PySem.W.dataLe_rows (fun b => b)] at eo
    obtain ⟨ys, r3, r4⟩ := each_to eo
    obtain ⟨c, hcc⟩ := PyProof.Rows.sortedAll_at s.heap its out.toArray
    have hlen : ys.length ≤ sizeLine := by rw [r3.length, ho]; exact hz
    exact ⟨.ref _, upd H (s.heap.objs.size + 1) (.lst ys), I.laid (t' := s.toks) (fun _ _ => PyProof.Rows.sortedAll_old) (Nat.le_succ _) ⟨hlen, out, c, r3, hcc⟩, rfl, q ys _ r4 (I.hok.fresh (Nat.le_succ _))⟩
theorem br_sortedR {rows : List (List Int)} (hu : X.A.units + 3 < cLine) (hg : Gl X "sorted") (hm : X.mg "sorted" = none) (ha : BR X a Γ r1) (hl : listOf Γ r1 = some (rows.map row)) (hz : rows.length ≤ sizeLine)
    (he : starEach [a] X.env = (false, eval a X.env) :: starEach [] X.env := by rfl) (hpl : (backTo pos (starEach [] X.env)).any (·.1) = false := by rfl) : BR X (.Call (.Name "sorted" p) [a] [] pos) Γ (.new ((rows.mergeSort rowLe).map row)) :=
  br_b1 (cr_sortedR hu) hg hm (by decide +kernel) ha (fun σ H0 B H v s g Q q => by
    obtain ⟨l, xs, rfl, h1, g1⟩ := list_at s g hl
    refine ⟨l, xs, rows, B, rfl, .of h1, s.sub, g1, hz, fun ys t gy ht => ?_⟩
    exact q _ B _ (.grown s.sub (same_upd ht)) ⟨t, ys, rfl, ht, s.sub.free ht, upd_same, gy⟩) (by decide) (by decide) he hpl
end
end Bv
set_option Elab.async false
set_option autoImplicit false
set_option linter.all false
set_option maxRecDepth 100000
set_option maxHeartbeats 2000000
/-! Bv11: the keys of an owned dict as lists; isinstance of a tuple; calls with keywords alone; repr. -/
namespace Bv
open PySem PySem.Spec PyProof.Rows L2

section
variable {X : Cx} {Γ : En} {F : List Nat} {P : Po} {e a b c : Expr} {r r1 r2 : Res} {pos : Pos} {x : Str} {p : Pos} {i : Nat} {Φ : Res → En → Prop} {rest : List Stmt}
/-- [list(y) for y in x], x an owned dict whose keys are tuples of ints -/
theorem br_keyRows {rows : List (List Int)} {kvs : List (List Key × PyData)} {y : Str} {scope : Scope} {j : Nat} {pe p1 py py2 : Pos} (hc : X.calm = true) (hNd : X.N.Nodup) (hN : X.N[i]? = some x) (hv : Vis X.env.scope x) (hΓ : Γ[i]? = some (.dic kvs)) (hk : kvs.map (·.1) = rows.map ik) (hz : rows.length ≤ sizeLine)
    (ok : BlkOk X.N X.env.scope scope [(y, j)]) (hG : ∀ Y, BlkX X scope Y → PG Y (.Name y py) (gName j) ∧ Gl Y "list" ∧ Y.mg "list" = none ∧ Y.N[j]? = some y ∧ Vis Y.env.scope y) (hjl : j < Γ.length)
    (hd : (x == ("__debug__" : Str)) = false := by decide) (hcd : (x == ("__classdict__" : Str)) = false := by decide) (hd2 : (y == ("__debug__" : Str)) = false := by decide) (hcd2 : (y == ("__classdict__" : Str)) = false := by decide)
    (hs : ∀ z, foldedSetIterable (.Name x p) X.env z = pure z := by intro _; rfl)
    (he : ∀ Y, BlkX X scope Y → starEach [Expr.Name y py2] Y.env = (false, eval (.Name y py2) Y.env) :: starEach [] Y.env := by intro _ _; rfl) (hpl : ∀ Y, BlkX X scope Y → (backTo pe (starEach [] Y.env)).any (·.1) = false := by intro _ _; rfl) :
    BR X (.ListComp (.Call (.Name "list" p1) [.Name y py2] [] pe) [⟨.Name y py, .Name x p, [], 0⟩] scope pos) Γ (.new (rows.map row)) := by
  intro σ B H s Q q
  refine can_of (pe_lock (pe_lc hc hNd (pi_keys (pe_var hN hv hd hcd)) ok (g := gName j) (tt := tYes) (te := tAllE X scope (.Call (.Name "list" p1) [.Name y py2] [] pe)) (fun s H C cl fp => (hG _ ⟨_, _, _, _, _, rfl⟩).1) (fun _ _ _ _ _ => pts_nil) blk_e hs)) ?_
  obtain ⟨d, ys, hσ, hb, hh, g⟩ := dic_slot s hΓ
  refine ⟨d, .dT ys, hh, True.intro, fun od => ?_⟩
  have hys : ys.map (·.1) = rows.map ik := by
    rw [← hk]
    have gen : ∀ {ks : List (List Key × PyData)} {zs : List (List Key × V)}, RpKv X.K B ks zs → zs.map (·.1) = ks.map (·.1) := by
      intro ks
      induction ks with
      | nil => intro zs h; cases (show _ = [] from h); rfl
      | cons k ks ih => intro zs ⟨v, r, e, _, t⟩; subst e; rw [List.map_cons, List.map_cons, ih t]
    exact gen g
  have hyl : ys.length = rows.length := by have := congrArg List.length hys; simpa using this
  refine ⟨.ref d, hσ, d, od, rfl, .inr ⟨ys, upd_same, ?_⟩⟩
  intro D hD
  have hDd : D ≠ d := fun z => by subst z; rw [upd_same] at hD; cases hD
  have hHD : H D = none := by rw [upd_ne hDd] at hD; exact hD
  have hBD : B D = none := s.sub.free hHD
  refine lc_it walk_keysT (fun n H2 => ∃ Bi xs, (∀ c o, c ≠ d → H c = some o → H2 c = some o) ∧ H2 d = some (.frz od (.dT ys)) ∧ Same B Bi ∧ (∀ c o, Bi c = some o → H2 c = some o) ∧ (∀ c, H c ≠ none → B c = none → Bi c = none) ∧ Bi D = none ∧ H2 D = some (.lst xs) ∧ RpAll X.K Bi ((rows.take n).map row) xs) ?_ ?_ ?_ ?_
  · refine ⟨B, [], fun c o hcd ho => ?_, ?_, fun _ _ z => z, fun c o ho => ?_, fun _ _ z => z, hBD, upd_same, .nil⟩
    · have : c ≠ D := fun z => by subst z; rw [hHD] at ho; cases ho
      rw [upd_ne this, upd_ne hcd]; exact ho
    · rw [upd_ne hDd.symm]; exact upd_same
    · have n1 : c ≠ D := fun z => by subst z; rw [hBD] at ho; cases ho
      have n2 : c ≠ d := fun z => by subst z; rw [hb] at ho; cases ho
      rw [upd_ne n1, upd_ne n2]; exact s.sub c o ho
  · intro n H2 hn ⟨Bi, xs, _, h2, _⟩
    exact h2
  · intro n v H2 H3 hn ⟨Bi, xs, k1, k2, k3, k4, k5, k6, k7, g7⟩ hy
    obtain ⟨e1, k, w, qa, hkv, ev, hq⟩ := hy
    subst e1 ev
    have hn' : n < rows.length := by rw [← hyl]; exact hn
    have ek : k = ik rows[n] := by
      have e2 : (ys.map (·.1))[n]? = some k := by rw [List.getElem?_map, hkv]; rfl
      rw [hys, List.getElem?_map, List.getElem?_eq_getElem hn'] at e2
      exact (Option.some.inj e2).symm
    subst ek
    rw [ik_kV] at hq
    have hset : wipe ((wipe σ [j]).set j (some (V.ref qa))) [j] = wipe σ [j] := wipe_set (is := [j]) (vs := [V.ref qa]) (fun i hi => hi)
    refine ⟨hset, ?_⟩
    show tAllE X scope _ _ _ _
    intro Y hY
    obtain ⟨_, hgl, hmg, hNj, hVj⟩ := hG Y hY
    refine can_of (pe_callTy call_list_of hgl hmg (by decide +kernel) (pa_cons (pe_var hNj hVj hd2 hcd2) pa_nil (he Y hY)) (by decide) (by decide) (he Y hY) (hpl Y hY)) ?_
    have hjs : j < σ.length := by rw [← s.len]; exact hjl
    refine ⟨.ref qa, ?_, qa, _, rfl, .inr (.of hq), fun l hl => ?_⟩
    · show ((wipe σ [j]).set j (some (V.ref qa)))[j]? = _
      rw [List.getElem?_set_self (by rw [wipe_length]; exact hjs)]
    have hDn : l ≠ D := fun z => by subst z; rw [k7] at hl; cases hl
    have hdn : l ≠ d := fun z => by subst z; rw [k2] at hl; cases hl
    have hHl : H l = none := by
      cases q2 : H l with
      | none => rfl
      | some o => rw [k1 l o hdn q2] at hl; cases hl
    have hBl : Bi l = none := by
      cases q2 : Bi l with
      | none => rfl
      | some o => rw [k4 l o q2] at hl; cases hl
    refine ⟨xs, by rw [upd_ne hDn.symm]; exact k7, ?_, upd Bi l (.lst (rows[n].map V.int)), xs ++ [.ref l], fun c o hcd ho => ?_, ?_, k3.trans (same_upd hBl), fun c o ho => ?_, fun c h1 h2 => ?_, ?_, upd_same, ?_⟩
    · have e1 := g7.len
      rw [List.length_map, List.length_take] at e1
      omega
    · have n1 : c ≠ D := fun z => by subst z; rw [hHD] at ho; cases ho
      have n2 : c ≠ l := fun z => by subst z; rw [hHl] at ho; cases ho
      rw [upd_ne n1, upd_ne n2]; exact k1 c o hcd ho
    · rw [upd_ne hDd.symm, upd_ne hdn.symm]; exact k2
    · by_cases z : c = l
      · subst z
        rw [upd_same] at ho
        rw [upd_ne hDn, upd_same]
        exact ho
      · rw [upd_ne z] at ho
        have n1 : c ≠ D := fun z => by subst z; rw [k6] at ho; cases ho
        rw [upd_ne n1, upd_ne z]
        exact k4 c o ho
    · have : c ≠ l := fun z => by subst z; exact h1 hHl
      rw [upd_ne this]; exact k5 c h1 h2
    · rw [upd_ne hDn.symm]; exact k6
    · rw [List.take_add_one, List.getElem?_eq_getElem hn', List.map_append]
      refine (g7.up (same_upd hBl)).app (.cons (.lst upd_same (RpAll.of_ints _)) .nil)
  · intro H2 ⟨Bi, xs, k1, k2, k3, k4, k5, k6, k7, g7⟩
    refine ⟨k2, ?_⟩
    rw [hyl, List.take_of_length_le (Nat.le_refl _)] at g7
    have hbd : Bi d = none := k5 d (by rw [hh]; exact (fun z => nomatch z)) hb
    refine q _ Bi _ ⟨fun c o ho => ?_, k3, fun c o ho => ?_, k5⟩ ⟨D, xs, rfl, hHD, k6, by rw [upd_ne hDd]; exact k7, g7⟩
    · by_cases z : c = d
      · subst z; rw [hh] at ho; rw [upd_same]; exact ho
      · rw [upd_ne z]; exact k1 c o z ho
    · have : c ≠ d := fun z => by subst z; rw [hbd] at ho; cases ho
      rw [upd_ne this]; exact k4 c o ho
end
end Bv
set_option Elab.async false
set_option autoImplicit false
set_option linter.all false
set_option maxRecDepth 100000
set_option maxHeartbeats 2000000
/-! Bv12: isinstance of a tuple; calls with keywords alone; repr; promises that know of no repr under way. -/
namespace Bv
open PySem PySem.Spec PyProof.Rows L2

section
variable {X : Cx} {Γ : En} {F : List Nat} {P : Po} {e a b c : Expr} {es : List Expr} {r r1 r2 : Res} {pos : Pos} {x : Str} {p : Pos} {i : Nat} {Φ : Res → En → Prop} {rest : List Stmt}
/-! ### isinstance(x, (T1, T2, ..)) -/
def TyNames (X : Cx) : List Expr → List String → Prop
  | [], ts => ts = []
  | .Name T q :: r, ts => ∃ t us, ts = t :: us ∧ Gl X T ∧ X.mg T = none ∧ bootBuiltins T = some (.type t) ∧ T ≠ "__name__" ∧ (T == ("__debug__" : Str)) = false ∧ starEach (.Name T q :: r) X.env = (false, eval (.Name T q) X.env) :: starEach r X.env ∧ TyNames X r us
  | _ :: _, _ => False
def tTys (ts : List String) : TA := fun _ H Q => Q (ts.map V.ty) H
theorem pa_tys : ∀ {es : List Expr} {ts : List String}, TyNames X es ts → PA X es (tTys ts)
  | [], _, h => by cases (show _ = [] from h); exact pa_nil
  | .Name T q :: es, _, ⟨t, us, e, h1, h2, h3, h4, h5, h6, h7⟩ => by
    subst e
    exact ⟨fun pos pins s σ H Q I z => (pa_cons (pe_bltn (v := .ty t) h1 h2 h3 rfl h4 h5) (pa_tys h7) h6).run pos pins s σ H Q I z⟩
theorem kit_any {K : PySem.W.Frag} {d : PyData} : ∀ {ts : List String}, (∀ t ∈ ts, ∀ n ∈ ["NoneType", "bool", "int", "str", "list", "tuple", "dict"], (kitB n t).isSome = true) → PySem.W.kitAny K (.type (typeName d)) (ts.map Value.type) = some (ts.any fun t => isA t d)
  | [], _ => rfl
  | t :: ts, h => by
    have h1 := kit_isA (K := K) (T := t) d (h t List.mem_cons_self)
    have h2 := kit_any (K := K) (d := d) fun u hu => h u (List.mem_cons_of_mem _ hu)
    refine kitAny_cons h1 (fun z => ?_) (fun z => ?_)
    · rw [List.any_cons, z, Bool.false_or]; exact h2
    · rw [List.any_cons, z, Bool.true_or]
theorem clsVs : ∀ ts : List String, Paired ClsV (ts.map V.ty) (ts.map Value.type)
  | [] => .nil
  | t :: ts => .cons (.ty t) (clsVs ts)
theorem bv_isiT {ts : List String} {d : PyData} {x1 : Nat} {p1 : Pos} (hg : Gl X "isinstance") (hm : X.mg "isinstance" = none) (hT : TyNames X es ts) (ha : BR X a Γ r1) (hv : valOf Γ r1 = some d) (hts : ts.length ≤ sizeLine)
    (hk : ∀ t ∈ ts, ∀ n ∈ ["NoneType", "bool", "int", "str", "list", "tuple", "dict"], (kitB n t).isSome = true)
    (he : starEach [a, .Tuple es x1 p1] X.env = (false, eval a X.env) :: starEach [.Tuple es x1 p1] X.env := by rfl) (he2 : starEach [.Tuple es x1 p1] X.env = (false, eval (.Tuple es x1 p1) X.env) :: starEach [] X.env := by rfl) (hpl : (backTo pos (starEach [.Tuple es x1 p1] X.env)).any (·.1) = false := by rfl) :
    BV X (.Call (.Name "isinstance" p) [a, .Tuple es x1 p1] [] pos) Γ (.bool (ts.any fun t => isA t d)) := by
  intro σ B H s Q q
  refine can_of (pe_callB call_isiT hg hm (by decide +kernel) (pa_cons (pe_can (e := a)) (pa_cons (pe_tup (pa_tys hT)) pa_nil he2) he) (by decide) (by decide) he hpl) ?_
  refine ha σ B H s _ fun v B1 H1 o1 g1 => ?_
  refine ⟨by rw [List.length_map]; exact hts, fun t ht => ?_⟩
  have o2 : Pur B1 H1 B1 (upd H1 t (.tup (ts.map V.ty))) := .grown o1.sub (same_upd ht)
  exact ⟨v, t, _, _, _, _, rfl, upd_same, clsVs ts, res_ty ((s.pur o1).pur o2) (g1.on o2) hv, kit_any hk, q _ B1 _ (o1.trans o2) (Rp.bl _)⟩

/-! ### calls with keywords alone -/
def BK (X : Cx) (kws : List Keyword) (Γ : En) (ds : List PyData) : Prop := ∃ tk, PK X kws tk ∧ ∀ σ B H, Stt X.K B H Γ σ → ∀ Q : List V → Hp → Prop, (∀ vs B' H', Pur B H B' H' → RpAll X.K B' ds vs → Q vs H') → tk σ H Q
theorem bk_nil : BK X [] Γ [] := ⟨_, pk_nil, fun σ B H s Q q => q [] B H (.refl s.sub) .nil⟩
theorem bk_cons {nm : Option Str} {kpos : Pos} {kws : List Keyword} {d : PyData} {ds : List PyData} (h : BV X e Γ d) (t : BK X kws Γ ds) : BK X (⟨nm, e, kpos⟩ :: kws) Γ (d :: ds) := by
  obtain ⟨tk, h1, h2⟩ := t
  refine ⟨_, pk_cons (pe_can (e := e)) h1, fun σ B H s Q q => ?_⟩
  refine h σ B H s _ fun v B1 H1 o1 g1 => ?_
  refine h2 σ B1 H1 (s.pur o1) _ fun vs B2 H2 o2 g2 => ?_
  exact q (v :: vs) B2 H2 (o1.trans o2) (.cons (Rp.up g1 o2.ex) g2)
theorem br_callK0 {f : Addr} {fd : FuncData} {ps ks : List Str} {S : Sb} {k : Nat} {ds ds' : List PyData} {kws : List Keyword} {g : List Value → List Value → List Value} {gV : List V → List V → List V} (F : FnOk X.prog X.w X.K X.mg X.base CX0 k f fd ps (toSp X.K S)) (hr : Room k X.A) (hg : Gl X x) (hm : X.mg x = some (.ref f)) (hk : PySem.W.keepIn X.K (.ref f) = true) (hb : KBinds X.K fd ps ks g gV)
    (h : BK X kws Γ ds) (hgv : ∀ B zs, RpAll X.K B ds zs → RpAll X.K B ds' (gV [] zs)) (hS : S (ds'.map .dat) fun r' _ => r' = r) (hp : isPeek r = none := by rfl)
    (hall : (backToKw pos (keywordEach kws X.env)).all (·.1.isSome) = true := by rfl) (hks : (backToKw pos (keywordEach kws X.env)).filterMap (·.1) = ks := by rfl)
    (hdb : (x == ("__debug__" : Str)) = false := by decide) (hpl : ((backTo pos (starEach [] X.env)).any (·.1) || (backToKw pos (keywordEach kws X.env)).any (·.1.isNone)) = false := by rfl) : BR X (.Call (.Name x p) [] kws pos) Γ r := by
  obtain ⟨tk, h1, h2⟩ := h
  intro σ B H s Q q
  refine can_of (pe_callK0 (E := E0) F hr hg hm hk hb pass0 h1 hall hks hdb hpl) ?_
  refine h2 σ B H s _ fun vs B1 H1 o1 g1 => ?_
  exact sp_pure o1 (hgv _ _ g1) hS hp q
/-- two and three keywords, in another order -/
def g2r {α : Type} : List α → List α → List α := fun us ws => match us, ws with
  | [], [a, b] => [b, a]
  | _, _ => []
def g3r {α : Type} : List α → List α → List α := fun us ws => match us, ws with
  | [], [a, b, c] => [c, b, a]
  | _, _ => []
def g4r {α : Type} : List α → List α → List α := fun us ws => match us, ws with
  | [], [a, b, c, d] => [d, c, b, a]
  | _, _ => []
theorem g2r_rel {vs zs : List V} {us ws : List Value} (h1 : Vals vs us) (h2 : Vals zs ws) : Vals (g2r vs zs) (g2r us ws) := by
  cases h1 with
  | cons _ _ => exact .nil
  | nil =>
    cases h2 with
    | nil => exact .nil
    | cons a t =>
      cases t with
      | nil => exact .nil
      | cons b t =>
        cases t with
        | nil => exact .cons b (.cons a .nil)
        | cons _ _ => exact .nil
theorem g3r_rel {vs zs : List V} {us ws : List Value} (h1 : Vals vs us) (h2 : Vals zs ws) : Vals (g3r vs zs) (g3r us ws) := by
  cases h1 with
  | cons _ _ => exact .nil
  | nil =>
    cases h2 with
    | nil => exact .nil
    | cons a t =>
      cases t with
      | nil => exact .nil
      | cons b t =>
        cases t with
        | nil => exact .nil
        | cons c t =>
          cases t with
          | nil => exact .cons c (.cons b (.cons a .nil))
          | cons _ _ => exact .nil
theorem g4r_rel {vs zs : List V} {us ws : List Value} (h1 : Vals vs us) (h2 : Vals zs ws) : Vals (g4r vs zs) (g4r us ws) := by
  cases h1 with
  | cons _ _ => exact .nil
  | nil =>
    cases h2 with
    | nil => exact .nil
    | cons a t =>
      cases t with
      | nil => exact .nil
      | cons b t =>
        cases t with
        | nil => exact .nil
        | cons c t =>
          cases t with
          | nil => exact .nil
          | cons d t =>
            cases t with
            | nil => exact .cons d (.cons c (.cons b (.cons a .nil)))
            | cons _ _ => exact .nil
theorem g2r_rp {K : PySem.W.Frag} {B : Hp} {a b : PyData} {zs : List V} (h : RpAll K B [a, b] zs) : RpAll K B [b, a] (g2r [] zs) := by
  cases h with
  | cons h1 t =>
    cases t with
    | cons h2 t => cases t; exact .cons h2 (.cons h1 .nil)
theorem g3r_rp {K : PySem.W.Frag} {B : Hp} {a b c : PyData} {zs : List V} (h : RpAll K B [a, b, c] zs) : RpAll K B [c, b, a] (g3r [] zs) := by
  cases h with
  | cons h1 t =>
    cases t with
    | cons h2 t =>
      cases t with
      | cons h3 t => cases t; exact .cons h3 (.cons h2 (.cons h1 .nil))
theorem g4r_rp {K : PySem.W.Frag} {B : Hp} {a b c d : PyData} {zs : List V} (h : RpAll K B [a, b, c, d] zs) : RpAll K B [d, c, b, a] (g4r [] zs) := by
  cases h with
  | cons h1 t =>
    cases t with
    | cons h2 t =>
      cases t with
      | cons h3 t =>
        cases t with
        | cons h4 t => cases t; exact .cons h4 (.cons h3 (.cons h2 (.cons h1 .nil)))

/-! ### repr -/
/-- data whose repr is told here -/
def tells (d : PyData) : Prop := (d.canLay0 = true ∨ d = .dict []) ∧ d.showable = true ∧ d.shown.length ≤ sizeLine ∧ d.depth ≤ 100
theorem rp_reads {pins : List (Addr × Obj)} {σ : L2.St} {B H : Hp} {s : Shared} {d : PyData} {v : V} {u : Value} (I : Inv X pins σ H s) (sub : Same B H) (h : Rp X.K B d v) (r : RelV v u) (hd : d.canLay0 = true ∨ d = .dict []) : ∃ as, Reads s.heap u d as ∧ (d.hasDict = true → sysModules ∉ as) := by
  rcases hd with hd | hd
  · obtain ⟨as, z⟩ := Dp.reads I d v u (Rp.dp _ _ (Rp.up h sub) hd) r
    exact ⟨as, z, PyData.noDict_hsm (PyData.hasDict_of_canLay d hd)⟩
  · subst hd
    cases h with
    | dic h =>
      cases r
      obtain ⟨z, hdd, vs, rel, dd⟩ := dk_of I.hok (sub _ _ h)
      cases rel
      obtain ⟨o, es, ep, ho, hx, hdat, _, hp, _⟩ := dd
      have he : es.toList = [] := by
        revert hp
        generalize es.toList = l
        intro hp
        cases hp
        rfl
      refine ⟨_, Reads.dict ho hx.1 hdat (as := []) (bs := []) ?_ ?_, fun _ => ?_⟩
      · rw [he]; exact .nil
      · rw [he]; exact .nil
      · intro hmem
        have e1 := List.mem_singleton.mp (show sysModules ∈ [_] from hmem)
        rw [← e1] at hdd
        simp at hdd
theorem call_reprD (hg : X.A.guards = some []) (hu : X.A.units + 102 < cLine) : CallR X (.builtin "repr") (fun vs H Q => ∃ (v : V) (d : PyData) (B : Hp), vs = [v] ∧ Same B H ∧ Rp X.K B d v ∧ tells d ∧ Q (.str d.shown) H) := by
  intro pins s σ H vs us Q I r h
  obtain ⟨v, d, B, rfl, sub, g, ⟨t1, t2, t3, t4⟩, q⟩ := h
  obtain ⟨u, eu, ru⟩ := vals1 r
  subst eu
  obtain ⟨as, rd, hsm⟩ := rp_reads I sub g ru t1
  have fin : ∀ (t : Tok) (s' : Shared), Inv X pins σ H s' → EP X pins σ Q (.str d.shown t) s' := fun t s' I' => ⟨.str d.shown, H, I', ⟨t, rfl⟩, q⟩
  cases g with
  | non => cases (show u = Value.none from ru); exact P.repr_of_none (fin _ _ (I.tok _))
  | bl b =>
    cases (show u = Value.bool b from ru)
    exact P.repr_of_bool (by have := fin s.toks _ (I.tok (s.toks + 1)); cases b <;> exact this)
  | int i =>
    obtain ⟨t, e⟩ := (show ∃ t, u = Value.int i t from ru)
    subst e
    exact P.repr_of_int (by simpa [PyData.showable] using t2) (fin _ _ (I.tok _))
  | str x =>
    obtain ⟨t, e⟩ := (show ∃ t, u = Value.str x t from ru)
    subst e
    exact P.repr_of_str (fin _ _ (I.tok _)) t3
  | lst h1 g1 =>
    cases ru
    exact repr_of_reads' rd t2 hsm hg (by omega) (fun _ _ z => z) (fun h' u tk hk => fin _ _ (I.kept (t' := tk) hk)) t3
  | tup h1 g1 =>
    cases ru
    exact repr_of_reads' rd t2 hsm hg (by omega) (fun _ _ z => z) (fun h' u tk hk => fin _ _ (I.kept (t' := tk) hk)) t3
  | dic h1 =>
    cases ru
    exact repr_of_reads' rd t2 hsm hg (by omega) (fun _ _ z => z) (fun h' u tk hk => fin _ _ (I.kept (t' := tk) hk)) t3
theorem bv_repr {d : PyData} (hgd : X.A.guards = some []) (hu : X.A.units + 102 < cLine) (hg : Gl X "repr") (hm : X.mg "repr" = none) (ha : BV X a Γ d) (ht : tells d)
    (he : starEach [a] X.env = (false, eval a X.env) :: starEach [] X.env := by rfl) (hpl : (backTo pos (starEach [] X.env)).any (·.1) = false := by rfl) : BV X (.Call (.Name "repr" p) [a] [] pos) Γ (.str d.shown) :=
  br_b1 (call_reprD hgd hu) hg hm (by decide +kernel) ha (fun σ H0 B H v s g Q q => ⟨v, d, B, rfl, s.sub, g, ht, q _ B H (.refl s.sub) (Rp.str _)⟩) (by decide) (by decide) he hpl
end
end Bv
set_option Elab.async false
set_option autoImplicit false
set_option linter.all false
set_option maxRecDepth 100000
set_option maxHeartbeats 2000000
/-! Bv13: promises kept where no repr is under way (FnG), from a def's body up to the law's own call. -/
namespace Bv
open PySem PySem.Spec PyProof.Rows L2

structure FnG (P : Program) (w : World) (K : PySem.W.Frag) (mg : Str → Option Value) (base : Heap) (k : Nat) (f : Addr) (fd : FuncData) (ps : List Str) (sp : Sp) : Prop where
  size : ∀ xs G R E, sp xs G R E → xs.length = ps.length
  go : ∀ (A : Around) (envs : List Env) (st : Shared) (G : Hp) (ag : Args) (vals : List Value) (xs : List V) (R : VK) (E : XK), Room k A → A.guards = some [] → Env0 P w K mg base A envs st G → BindsTo st fd ag (ps.zip vals) → Vals xs vals →
    sp xs G R E → codeAny (model P w) A (.call (.ref f) ag) (CR CX0 envs P w G st R E) st
section
variable {P : Program} {w : World} {K : PySem.W.Frag} {mg : Str → Option Value} {base : Heap}
theorem FnG.of {k : Nat} {f : Addr} {fd : FuncData} {ps : List Str} {sp : Sp} (F : FnOk P w K mg base CX0 k f fd ps sp) : FnG P w K mg base k f fd ps sp := ⟨F.len, fun A envs st G ag vals xs R E hr _ => F.run A envs st G ag vals xs R E hr⟩
theorem FnG.more {j k : Nat} {f : Addr} {fd : FuncData} {ps : List Str} {sp : Sp} (F : FnG P w K mg base j f fd ps sp) (h : j ≤ k) : FnG P w K mg base k f fd ps sp := ⟨F.size, fun A envs st G ag vals xs R E hr => F.go A envs st G ag vals xs R E (hr.mono h)⟩
/-- a def by its body, no repr under way -/
theorem fnG_ok {x qual : Str} {stm : Stmt} {f : Addr} {fd : FuncData} {N ps : List Str} {k : Nat} {S : Sb} (fix : List Nat) (F : Fun K x qual stm f fd) (Sc : FnScope N ps (defScope stm)) (len : ∀ es Φ, S es Φ → es.length = ps.length) (hown : ∀ es Φ, S es Φ → ∀ i, isOwn es[i]? → i ∈ fix)
    (body : ∀ (cdv : Value) (A : Around) (outer : List Env) (s : Shared) (H : Hp) (E : XK), A.guards = some [] → Room k (A.deeper (envOfC qual (defScope stm) s.heap.objs.size f cdv)) → ∀ es Φ, S es Φ →
      SV (cxOf CX0 P w K mg base N qual (defScope stm) f cdv A outer s H E).nox fix (defBody stm) (startE N es) { nx := fun Γ' => Φ (.dat .none) (outs es Γ'), rt := fun r Γ' => ∃ r', retOf es Γ' r = some r' ∧ Φ r' (outs es Γ') }) : FnG P w K mg base (k + 1) f fd ps (toSp K S) := by
  obtain ⟨oc, od, kV, doc, pm, an, cdv, ct, osl, rfl, lk, hcode⟩ := F.ex
  have size : ∀ xs G R E, toSp K S xs G R E → xs.length = ps.length := fun xs G R E ⟨B, es, Φ, st, hS, _⟩ => by
    have e := st.len
    rw [List.length_map] at e
    rw [← e]
    exact len es Φ hS
  refine ⟨size, fun A envs st G ag vals xs R E room hgd env0 bind rel hsp => ?_⟩
  have lens := size _ _ _ _ hsp
  have kept : ∀ b o, base.get? b = some o → st.heap.get? b = some o := fun b o e => (env0.bs b o e).1
  have inK : K.In st.heap := env0.mod.kin.keeps kept
  have noLim : st.heap.NoLimit := env0.mod.nolimit.keeps kept
  refine codeAny_call_function room.depth (inK _ _ lk) (by rfl) Sc.co Sc.gen (by rfl) (PySem.W.codeRec_of inK hcode) (bind _ _ _ _ ?_)
  refine wpAny_newFunctionEnv_cells Sc.kind (fun ⟨n, v⟩ hy => ?_) fun env hE st1 inC => ?_
  · rcases Sc.par n (List.of_mem_zip hy).1 with z | z
    · exact Or.inl z
    · exact Or.inr ⟨z, PySem.W.cellsFrom_some _ _ _ (Or.inl z)⟩
  · subst hE
    refine ⟨noLim.keeps inC.toInCall.keep, codeAny_func ?_⟩
    have start0 : Inv (cxOf CX0 P w K mg base N qual (defScope stm) f cdv A envs st G E) [] (start N xs) G st1 := inv_start Sc room.hd env0 lens rel inC
    obtain ⟨B, es, Φ, s0, hS, q⟩ := hsp
    have rb := run_body (X := (cxOf CX0 P w K mg base N qual (defScope stm) f cdv A envs st G E).nox) (Q := R) fix (hown es Φ hS) s0 q (body cdv A envs st G E hgd (room.deeper _) es Φ hS)
    have pss : PSs (cxOf CX0 P w K mg base N qual (defScope stm) f cdv A envs st G E) (defBody stm) _ := (pss_can (X := (cxOf CX0 P w K mg base N qual (defScope stm) f cdv A envs st G E).nox) (ss := defBody stm)).nox
    refine wpAny_mono (pss.run [] st1 _ G _ start0 rb) (fun way st2 h2 => ?_) fun _ _ z => z
    have close : ∀ {σ2 : L2.St} {G2 : Hp} {v : V} {u : Value}, Inv (cxOf CX0 P w K mg base N qual (defScope stm) f cdv A envs st G E) [] σ2 G2 st2 → RelV v u → R v G2 → CE envs P w G st R u st2 :=
      fun {σ2 G2 v u} J rv z => ⟨v, G2, J.os, J.bare, J.base, J.hok, rv, z⟩
    cases way with
    | ret u => obtain ⟨v, σ2, G2, J, rv, z⟩ := h2; exact close J rv z
    | next => obtain ⟨σ2, G2, J, z⟩ := h2; exact close (v := .non) (u := .none) J rfl z
    | brk => obtain ⟨_, _, _, z⟩ := h2; exact z.elim
    | cont => obtain ⟨_, _, _, z⟩ := h2; exact z.elim
section
variable {X : Cx} {Γ : En} {k : Nat} {f : Addr} {fd : FuncData} {ps : List Str} {sp : Sp} {S : Sb} {x : Str} {p pos : Pos} {e : Expr} {es : List Expr} {Φ : Res → En → Prop} {t : TA}
theorem pe_callG (F : FnG X.prog X.w X.K X.mg X.base k f fd ps sp) (hr : Room k X.A) (hgd : X.A.guards = some []) (hg : Gl X x) (hm : X.mg x = some (.ref f)) (hk : PySem.W.keepIn X.K (.ref f) = true) (hb : Binds X.K fd ps []) (ha : PA X (e :: es) t)
    (hdb : (x == ("__debug__" : Str)) = false := by decide) (he : starEach (e :: es) X.env = (false, eval e X.env) :: starEach es X.env := by rfl) (hpl : (backTo pos (starEach es X.env)).any (·.1) = false := by rfl) : PE X (.Call (.Name x p) (e :: es) [] pos) (tCall sp [] E0 t) := by
  refine ⟨fun pins s σ H Q I h => wpAny_Call_Name_kw (ld_glob I hg hm ?_ hdb)⟩
  refine PySem.W.callWith_K (h₀ := X.base) I.ok.mod.kin hk (thn (ha.run pos pins s σ H _ I h) fun us s1 ⟨vs, H1, I1, r, q⟩ => ⟨I1.kIn, ?_⟩) he hpl
  have q' : sp vs H1 Q E0 := by
    have q2 : sp (vs ++ []) H1 Q E0 := q
    rw [List.append_nil] at q2
    exact q2
  have hl : us.length = ps.length := by rw [← r.length]; exact F.size _ _ _ _ q'
  have bind := hb s1 us I1.kIn (by rw [List.append_nil]; exact hl)
  rw [List.append_nil] at bind
  refine wpAny_call (codeAny_mono (F.go X.A X.stack s1 H1 ⟨us, []⟩ us vs Q E0 hr hgd I1.env0 bind r q') fun way s2 hq => ?_)
  cases way with
  | error e => exact (show False from hq).elim
  | ok fl =>
    cases fl with
    | ret u => exact I1.after hq
    | next => exact (show False from hq).elim
    | brk => exact (show False from hq).elim
    | cont => exact (show False from hq).elim
theorem ev_callG (F : FnG X.prog X.w X.K X.mg X.base k f fd ps (toSp X.K S)) (hr : Room k X.A) (hgd : X.A.guards = some []) (hg : Gl X x) (hm : X.mg x = some (.ref f)) (hk : PySem.W.keepIn X.K (.ref f) = true) (hb : Binds X.K fd ps [])
    (h : EVA X (e :: es) Γ fun rs Γ1 => (peeks rs).Nodup ∧ S (rs.map (argEnt Γ1)) fun r es' => Φ r (backEn Γ1 rs es'))
    (hdb : (x == ("__debug__" : Str)) = false := by decide) (he : starEach (e :: es) X.env = (false, eval e X.env) :: starEach es X.env := by rfl) (hpl : (backTo pos (starEach es X.env)).any (·.1) = false := by rfl) : EV X (.Call (.Name x p) (e :: es) [] pos) Γ Φ := by
  intro σ B H s Q q
  refine can_of (pe_callG F hr hgd hg hm hk hb (pa_can (es := e :: es)) hdb he hpl) ?_
  refine h σ B H s _ fun vs rs Γ1 B1 H1 o1 g1 ⟨n, h1⟩ => ?_
  show toSp X.K S (vs ++ []) H1 Q E0
  rw [List.append_nil]
  exact sp_call s o1 g1 n h1 q
end
/-- the law's own call, at the heap behind the top -/
theorem lawG_call {mb : Str → Option Value} {k : Nat} {fa a : Addr} {fd : FuncData} {x : Str} {sp : Sp} {st : Shared} {vals : List Value} {ns : List Int} (inK : K.In st.heap) (nsM : st.heap.Ns mainGlobals mg) (nsB : st.heap.Ns builtinsNs mb) (boot : ∀ x : Str, x ≠ "__name__" → mb x = bootBuiltins x)
    (lim : st.heap.NoLimit) (gens : st.gens = #[]) (obj : st.heap.get? a = some { cls := .type "list", data := .seq vals.toArray }) (allInts : IntsAre vals ns) (short : ns.length ≤ sizeLine) (room : Room k callerA) (F : ∀ base : Heap, K.In base → base.Ns mainGlobals mg → FnG P w K mg base k fa fd [x] sp)
    (bind : ∀ (s : Shared) (u : Value), BindsTo s fd ⟨[u], []⟩ [(x, u)]) (hsp : ∀ G : Hp, Only G → SqL K G a (ns.map V.int) → sp [.ref a] G (fun v _ => v = .bl true) fun _ _ _ => False) :
    codeAny (model P w) callerA (.call (.ref fa) ⟨[.ref a], []⟩) (fun r s' => r = .ok (.ret (.bool true)) ∧ OldK st.heap s'.heap ∧ s'.os = st.os ∧ AllBare s'.gens) st := by
  have rel := vals_ints allInts
  have size := allInts.length
  -- the script is all that may be tracked
  have main : ∀ G : Hp, Only G → SqL K G a (ns.map V.int) → HOk P w G st.heap → (∀ b, G b ≠ none → b = a) → (G a ≠ none → K.lookup a = none) →
      codeAny (model P w) callerA (.call (.ref fa) ⟨[.ref a], []⟩) (fun r s' => r = .ok (.ret (.bool true)) ∧ OldK st.heap s'.heap ∧ s'.os = st.os ∧ AllBare s'.gens) st := by
    intro G only seq ok alone notK
    have hidden : ∀ {b : Addr} {o : Obj}, st.heap.get? b = some o → G b = none → (hidT st.heap G).get? b = some o := fun h n => hidT_get h n
    have noDict : ∀ {b : Addr} {o : Obj} {es : Array DictEntry} {ep : Nat}, st.heap.get? b = some o → o.data = .dict es ep → G b = none := fun {b o es ep} h d => by
      cases q : G b with
      | none => rfl
      | some u =>
        have z : b = a := alone b fun n => by rw [q] at n; cases n
        subst z
        rw [obj] at h
        cases h
        cases (show Data.seq vals.toArray _ = Data.dict es ep from d)
    have nsH : ∀ {b : Addr} {m : Str → Option Value}, st.heap.Ns b m → (hidT st.heap G).Ns b m := fun {b m} ⟨o, es, ep, h, d, r⟩ => ⟨o, es, ep, hidden h (noDict h d), d, r⟩
    have inH : K.In (hidT st.heap G) := fun b o h => hidden (inK b o h) (by
      cases q : G b with
      | none => rfl
      | some u =>
        have n : G b ≠ none := fun n => by rw [q] at n; cases n
        have z : b = a := alone b n
        subst z
        rw [notK n] at h
        cases h)
    have mod : Mod K mg (hidT st.heap G) := ⟨inH, nsH nsM, ⟨mb, nsH nsB, boot⟩, let ⟨mc, h1, h2⟩ := lim; ⟨mc, nsH h1, h2⟩⟩
    have env0 : Env0 P w K mg (hidT st.heap G) callerA [] st G := ⟨rfl, mod, fun b o h => of_hidT h, Nat.le_of_eq (hidT_size _ _), trivial, fun b z => absurd (show b ∈ ([] : List Addr) from z) List.not_mem_nil, ok, .of_eq gens⟩
    refine codeAny_mono ((F _ inH (nsH nsM)).go callerA [] st G ⟨[.ref a], []⟩ [.ref a] [.ref a] _ _ room rfl env0 (bind st (.ref a)) (.cons rfl .nil) (hsp G only seq)) fun way s2 h => ?_
    cases way with
    | error e => exact (show False from h).elim
    | ok fl =>
      cases fl with
      | next => exact (show False from h).elim
      | brk => exact (show False from h).elim
      | cont => exact (show False from h).elim
      | ret u =>
        obtain ⟨v, G2, os, bare, un, ok2, rv, q⟩ := h
        cases (show v = .bl true from q)
        cases (show u = Value.bool true from rv)
        refine ⟨rfl, OldK.of_keep fun b o h => ?_, os, bare⟩
        cases q : G b with
        | none => exact un.keep b o h q (fun z => absurd (show b ∈ ([] : List Addr) from z) List.not_mem_nil) List.not_mem_nil
        | some u =>
          rcases only b with z | ⟨ob, xs, z⟩
          · rw [q] at z; cases z
          · obtain ⟨h1, _⟩ := ok b _ z
            obtain ⟨h2, _⟩ := ok2 b _ (un.frzs b ob _ z)
            rw [h] at h1
            cases h1
            exact h2
  cases lk : K.lookup a with
  | some o =>
    have h := inK a o lk
    rw [obj] at h
    cases h
    exact main (fun _ => none) (fun _ => Or.inl rfl) (Or.inr ⟨_, vals.toArray, _, lk, rfl, rfl, rfl, by rw [List.size_toArray, size]; exact short, by simpa using rel⟩) (fun b u z => by cases (show (none : Option HO) = some u from z)) (fun b z => absurd rfl z) fun z => absurd rfl z
  | none =>
    have at_a : ∀ {b : Addr} {u : HO}, (if b = a then some (HO.frz { cls := .type "list", data := .seq vals.toArray } (.lst (ns.map V.int))) else none) = some u → b = a ∧ u = .frz { cls := .type "list", data := .seq vals.toArray } (.lst (ns.map V.int)) := fun {b u} z => by
      by_cases e : b = a
      · rw [if_pos e] at z; cases z; exact ⟨e, rfl⟩
      · rw [if_neg e] at z; cases z
    refine main (fun b => if b = a then some (.frz { cls := .type "list", data := .seq vals.toArray } (.lst (ns.map V.int))) else none) (fun b => ?_) (Or.inl (Or.inr ⟨{ cls := .type "list", data := .seq vals.toArray }, if_pos rfl⟩)) (fun b u z => ?_) (fun b z => ?_) fun _ => lk
    · by_cases e : b = a
      · exact Or.inr ⟨_, _, if_pos e⟩
      · exact Or.inl (if_neg e)
    · obtain ⟨e, e2⟩ := at_a z
      subst e e2
      exact ⟨obj, by rw [List.length_map]; exact short, vals, _, rel, obj⟩
    · cases q : (if b = a then some (HO.frz { cls := .type "list", data := .seq vals.toArray } (.lst (ns.map V.int))) else none) with
      | none => exact absurd q z
      | some u => exact (at_a q).1
end
end Bv
set_option Elab.async false
set_option autoImplicit false
set_option linter.all false
set_option maxRecDepth 100000
set_option maxHeartbeats 2000000
/-! Bv14: calls of own defs in short; small helps. -/
namespace Bv
open PySem PySem.Spec PyProof.Rows L2

def ownChk : En → Nat → List Nat → Bool
  | [], _, _ => true
  | .own _ :: es, i, fix => fix.contains i && ownChk es (i + 1) fix
  | .dic _ :: es, i, fix => fix.contains i && ownChk es (i + 1) fix
  | _ :: es, i, fix => ownChk es (i + 1) fix
theorem own_of' {fix : List Nat} : ∀ {es : En} {j : Nat}, ownChk es j fix = true → ∀ i, isOwn es[i]? → i + j ∈ fix
  | [], _, _, _, h => by simp at h; exact h.elim
  | e :: es, j, hc, 0, h => by
    rw [Nat.zero_add]
    cases e with
    | own ds => exact List.contains_iff_mem.mp (Bool.and_eq_true_iff.mp hc).1
    | dic ds => exact List.contains_iff_mem.mp (Bool.and_eq_true_iff.mp hc).1
    | no => exact h.elim
    | dat d => exact h.elim
    | scr d => exact h.elim
  | e :: es, j, hc, i + 1, h => by
    have h' : isOwn es[i]? := h
    have hc' : ownChk es (j + 1) fix = true := by
      cases e with
      | own ds => exact (Bool.and_eq_true_iff.mp hc).2
      | dic ds => exact (Bool.and_eq_true_iff.mp hc).2
      | no => exact hc
      | dat d => exact hc
      | scr d => exact hc
    have r := own_of' hc' i h'
    rw [show i + 1 + j = i + (j + 1) by omega]
    exact r
theorem own_of {fix : List Nat} {es : En} (h : ownChk es 0 fix = true) : ∀ i, isOwn es[i]? → i ∈ fix := fun i hi => own_of' h i hi
section
variable {P : Program} {w : World} {K : PySem.W.Frag} {mg : Str → Option Value} {base : Heap}
/-- the def x, as it is called -/
structure Calls (P : Program) (w : World) (K : PySem.W.Frag) (mg : Str → Option Value) (base : Heap) (k : Nat) (x : Str) (S : Sb) : Prop where
  ex : ∃ (f : Addr) (fd : FuncData) (ps : List Str), FnOk P w K mg base CX0 k f fd ps (toSp K S) ∧ mg x = some (.ref f) ∧ PySem.W.keepIn K (.ref f) = true ∧ Binds K fd ps []
theorem Calls.more {j k : Nat} {x : Str} {S : Sb} (C : Calls P w K mg base j x S) (h : j ≤ k) : Calls P w K mg base k x S := by
  obtain ⟨f, fd, ps, h1, h2, h3, h4⟩ := C.ex
  exact ⟨f, fd, ps, h1.mono h, h2, h3, h4⟩
structure CallsG (P : Program) (w : World) (K : PySem.W.Frag) (mg : Str → Option Value) (base : Heap) (k : Nat) (x : Str) (S : Sb) : Prop where
  ex : ∃ (f : Addr) (fd : FuncData) (ps : List Str), FnG P w K mg base k f fd ps (toSp K S) ∧ mg x = some (.ref f) ∧ PySem.W.keepIn K (.ref f) = true ∧ Binds K fd ps []
/-- with defaults, ints, behind what is written -/
structure CallsD (P : Program) (w : World) (K : PySem.W.Frag) (mg : Str → Option Value) (base : Heap) (k : Nat) (x : Str) (dd : List Int) (S : Sb) : Prop where
  ex : ∃ (f : Addr) (fd : FuncData) (ps : List Str) (dv : List Value), FnOk P w K mg base CX0 k f fd ps (toSp K S) ∧ mg x = some (.ref f) ∧ PySem.W.keepIn K (.ref f) = true ∧ Vals (dd.map V.int) dv ∧ Binds K fd ps dv
theorem CallsD.more {j k : Nat} {x : Str} {dd : List Int} {S : Sb} (C : CallsD P w K mg base j x dd S) (h : j ≤ k) : CallsD P w K mg base k x dd S := by
  obtain ⟨f, fd, ps, dv, h1, h2, h3, h4⟩ := C.ex
  exact ⟨f, fd, ps, dv, h1.mono h, h2, h3, h4⟩
/-- by keywords alone, named ks -/
structure CallsK (P : Program) (w : World) (K : PySem.W.Frag) (mg : Str → Option Value) (base : Heap) (k : Nat) (x : Str) (ks : List Str) (gV : List V → List V → List V) (S : Sb) : Prop where
  ex : ∃ (f : Addr) (fd : FuncData) (ps : List Str) (g : List Value → List Value → List Value), FnOk P w K mg base CX0 k f fd ps (toSp K S) ∧ mg x = some (.ref f) ∧ PySem.W.keepIn K (.ref f) = true ∧ KBinds K fd ps ks g gV
section
variable {X : Cx} {Γ : En} {k : Nat} {S : Sb} {x : Str} {p pos : Pos} {e : Expr} {es : List Expr} {r : Res} {Φ : Res → En → Prop} {ds ds' : List PyData} {dd : List Int}
theorem br_own (C : Calls X.prog X.w X.K X.mg X.base k x S) (hr : Room k X.A) (hg : Gl X x) (h : BA X (e :: es) Γ ds) (hS : S (ds.map .dat) fun r' _ => r' = r) (hp : isPeek r = none := by rfl)
    (hdb : (x == ("__debug__" : Str)) = false := by decide) (he : starEach (e :: es) X.env = (false, eval e X.env) :: starEach es X.env := by rfl) (hpl : (backTo pos (starEach es X.env)).any (·.1) = false := by rfl) : BR X (.Call (.Name x p) (e :: es) [] pos) Γ r := by
  obtain ⟨f, fd, ps, h1, h2, h3, h4⟩ := C.ex
  exact br_call h1 hr hg h2 h3 h4 h hS hp hdb he hpl
theorem ev_own (C : Calls X.prog X.w X.K X.mg X.base k x S) (hr : Room k X.A) (hg : Gl X x) (h : EVA X (e :: es) Γ fun rs Γ1 => (peeks rs).Nodup ∧ S (rs.map (argEnt Γ1)) fun r es' => Φ r (backEn Γ1 rs es'))
    (hdb : (x == ("__debug__" : Str)) = false := by decide) (he : starEach (e :: es) X.env = (false, eval e X.env) :: starEach es X.env := by rfl) (hpl : (backTo pos (starEach es X.env)).any (·.1) = false := by rfl) : EV X (.Call (.Name x p) (e :: es) [] pos) Γ Φ := by
  obtain ⟨f, fd, ps, h1, h2, h3, h4⟩ := C.ex
  exact ev_call h1 hr hg h2 h3 h4 h hdb he hpl
theorem ev_ownG (C : CallsG X.prog X.w X.K X.mg X.base k x S) (hr : Room k X.A) (hgd : X.A.guards = some []) (hg : Gl X x) (h : EVA X (e :: es) Γ fun rs Γ1 => (peeks rs).Nodup ∧ S (rs.map (argEnt Γ1)) fun r es' => Φ r (backEn Γ1 rs es'))
    (hdb : (x == ("__debug__" : Str)) = false := by decide) (he : starEach (e :: es) X.env = (false, eval e X.env) :: starEach es X.env := by rfl) (hpl : (backTo pos (starEach es X.env)).any (·.1) = false := by rfl) : EV X (.Call (.Name x p) (e :: es) [] pos) Γ Φ := by
  obtain ⟨f, fd, ps, h1, h2, h3, h4⟩ := C.ex
  exact ev_callG h1 hr hgd hg h2 h3 h4 h hdb he hpl
theorem br_ownD (C : CallsD X.prog X.w X.K X.mg X.base k x dd S) (hr : Room k X.A) (hg : Gl X x) (h : BA X (e :: es) Γ ds) (hS : S ((ds ++ dd.map PyData.int).map Ent.dat) fun r' _ => r' = r) (hp : isPeek r = none := by rfl)
    (hdb : (x == ("__debug__" : Str)) = false := by decide) (he : starEach (e :: es) X.env = (false, eval e X.env) :: starEach es X.env := by rfl) (hpl : (backTo pos (starEach es X.env)).any (·.1) = false := by rfl) : BR X (.Call (.Name x p) (e :: es) [] pos) Γ r := by
  obtain ⟨f, fd, ps, dv, h1, h2, h3, h4, h5⟩ := C.ex
  intro σ B H s Q q
  refine can_of (pe_call h1 hr hg h2 h3 h5 h4 pass0 (pa_can (es := e :: es)) hdb he hpl) ?_
  refine h σ B H s _ fun vs B1 H1 o1 g1 => ?_
  exact sp_pure o1 (g1.app (RpAll.of_ints dd)) hS hp q
theorem br_ownK {ks : List Str} {kws : List Keyword} {gV : List V → List V → List V} (C : CallsK X.prog X.w X.K X.mg X.base k x ks gV S) (hr : Room k X.A) (hg : Gl X x) (h : BK X kws Γ ds) (hgv : ∀ B zs, RpAll X.K B ds zs → RpAll X.K B ds' (gV [] zs)) (hS : S (ds'.map .dat) fun r' _ => r' = r) (hp : isPeek r = none := by rfl)
    (hall : (backToKw pos (keywordEach kws X.env)).all (·.1.isSome) = true := by rfl) (hks : (backToKw pos (keywordEach kws X.env)).filterMap (·.1) = ks := by rfl)
    (hdb : (x == ("__debug__" : Str)) = false := by decide) (hpl : ((backTo pos (starEach [] X.env)).any (·.1) || (backToKw pos (keywordEach kws X.env)).any (·.1.isNone)) = false := by rfl) : BR X (.Call (.Name x p) [] kws pos) Γ r := by
  obtain ⟨f, fd, ps, g, h1, h2, h3, h4⟩ := C.ex
  exact br_callK0 h1 hr hg h2 h3 h4 h hgv hS hp hall hks hdb hpl
end
/-- a def with defaults -/
theorem fnD_ok {x qual : Str} {params : Arguments} {ss : List Stmt} {scope : Scope} {dvs : List V} {kws : List (Str × V)} {f : Addr} {fd : FuncData} {N ps : List Str} {k : Nat} {S : Sb} (F : FunD K x qual params ss scope dvs kws f fd) (Sc : FnScope N ps scope) (len : ∀ es Φ, S es Φ → es.length = ps.length) (hown : ∀ es Φ, S es Φ → ∀ i, isOwn es[i]? → i ∈ ([] : List Nat))
    (body : ∀ (cdv : Value) (A : Around) (outer : List Env) (s : Shared) (H : Hp) (E : XK), Room k (A.deeper (envOfC qual scope s.heap.objs.size f cdv)) → ∀ es Φ, S es Φ →
      SV (cxOf CX0 P w K mg base N qual scope f cdv A outer s H E) [] ss (startE N es) { nx := fun Γ' => Φ (.dat .none) (outs es Γ'), rt := fun r Γ' => ∃ r', retOf es Γ' r = some r' ∧ Φ r' (outs es Γ') }) : FnOk P w K mg base CX0 (k + 1) f fd ps (toSp K S) := by
  refine F.ok Sc (fun vs H Q E h => ?_) (fun cdv A outer s H vs Q E hr h => ?_)
  · obtain ⟨B, es, Φ, st, hS, _⟩ := h
    have := st.len
    rw [List.length_map] at this
    rw [← this]
    exact len es Φ hS
  · obtain ⟨B, es, Φ, s0, hS, q⟩ := h
    exact ⟨_, pss_can, run_body [] (hown es Φ hS) s0 q (body cdv A outer s H E hr es Φ hS)⟩
end
/-! ### rows: lists of natural numbers -/
abbrev nrow (ns : List Nat) : PyData := .list (ns.map fun n => PyData.int (n : Nat))
theorem shaped_nrow (ns : List Nat) : SeqAt.shaped (nrow ns) = true := by
  have h1 : (nrow ns).canLay0 = true := by
    unfold nrow PyData.canLay0
    induction ns with
    | nil => rfl
    | cons n ns ih => rw [List.map_cons]; unfold PyData.canLayAll0; rw [ih]; rfl
  have h2 : (nrow ns).depth = 1 := by
    unfold nrow PyData.depth
    have : ∀ ns : List Nat, PyData.depthAll (ns.map fun n => PyData.int (n : Nat)) = 0 := by
      intro ns
      induction ns with
      | nil => rfl
      | cons n ns ih => rw [List.map_cons]; unfold PyData.depthAll; rw [ih]; rfl
    rw [this]
  unfold SeqAt.shaped
  rw [h1, h2]
  rfl
theorem eqv_nrow (a b : List Nat) : PyData.eqv (nrow a) (nrow b) = decide (a = b) := by
  show PyData.eqv (.list _) (.list _) = _
  rw [PyData.eqv.eq_def]
  show PyData.eqvAll _ _ = _
  induction a generalizing b with
  | nil =>
    cases b with
    | nil => rfl
    | cons y ys => rfl
  | cons x xs ih =>
    cases b with
    | nil => rfl
    | cons y ys =>
      rw [List.map_cons, List.map_cons]
      show (PyData.eqv (.int x) (.int y) && PyData.eqvAll _ _) = _
      rw [ih ys]
      have e : PyData.eqv (.int (x : Int)) (.int (y : Int)) = decide (x = y) := by
        show ((x : Int) == (y : Int)) = _
        by_cases h : x = y
        · subst h; simp
        · have h' : ¬ (x : Int) = (y : Int) := fun z => h (Int.ofNat.inj z)
          simp [h, h']
      rw [e]
      simp
/-! ### names in short -/
section
variable {X : Cx} {Γ : En} {x : Str} {pos : Pos}
theorem bv_v (i : Nat) {d : PyData} (h : Γ[i]? = some (.dat d)) (hN : X.N[i]? = some x := by rfl) (hv : Vis X.env.scope x := by first | exact Or.inl rfl | exact Or.inr (Or.inl rfl) | exact Or.inr (Or.inr rfl)) (hd : (x == ("__debug__" : Str)) = false := by decide) (hcd : (x == ("__classdict__" : Str)) = false := by decide) : BV X (.Name x pos) Γ d := bv_var hN hv h hd hcd
theorem br_o (i : Nat) {ds : List PyData} (h : Γ[i]? = some (.own ds)) (hN : X.N[i]? = some x := by rfl) (hv : Vis X.env.scope x := by first | exact Or.inl rfl | exact Or.inr (Or.inl rfl) | exact Or.inr (Or.inr rfl)) (hd : (x == ("__debug__" : Str)) = false := by decide) (hcd : (x == ("__classdict__" : Str)) = false := by decide) : BR X (.Name x pos) Γ (.peek i) := br_peek hN hv h hd hcd
theorem br_d (i : Nat) {ds : List (List Key × PyData)} (h : Γ[i]? = some (.dic ds)) (hN : X.N[i]? = some x := by rfl) (hv : Vis X.env.scope x := by first | exact Or.inl rfl | exact Or.inr (Or.inl rfl) | exact Or.inr (Or.inr rfl)) (hd : (x == ("__debug__" : Str)) = false := by decide) (hcd : (x == ("__classdict__" : Str)) = false := by decide) : BR X (.Name x pos) Γ (.peek i) := br_peekD hN hv h hd hcd
end
end Bv
set_option Elab.async false
set_option autoImplicit false
set_option linter.all false
set_option maxRecDepth 100000
set_option maxHeartbeats 2000000
/-! Bv15: comprehensions over lists in short; slices. -/
namespace Bv
open PySem PySem.Spec PyProof.Rows L2
section
variable {X : Cx} {Γ : En} {e a b : Expr} {r : Res} {pos : Pos}
theorem bo_none : BO X none Γ none := trivial
theorem bo_some {i : Int} (h : BV X e Γ (.int i)) : BO X (some e) Γ (some i) := h
theorem hu102 {A : Around} {k : Nat} (hr : Room k A) : A.units + 102 < cLine := by have := hr.un; omega
theorem hu3 {A : Around} {k : Nat} (hr : Room k A) : A.units + 3 < cLine := by have := hr.un; omega
theorem hu2 {A : Around} {k : Nat} (hr : Room k A) : A.units + 2 < cLine := by have := hr.un; omega
theorem filter_yes {α : Type} (L : List α) : L.filter (fun _ => true) = L := by
  induction L with
  | nil => rfl
  | cons x L ih => rw [List.filter_cons, if_pos rfl, ih]
/-- [elt for y in iter], y a name -/
theorem br_lc1 {α : Type} {elt iter : Expr} {scope : Scope} {y : Str} {py : Pos} {j : Nat} {wi : TI} {L : List α} {enc : α → PyData} {f : α → PyData} (nd : X.N.Nodup) (ok : BlkOk X.N X.env.scope scope [(y, j)]) (hi : PI X (.Name y py) iter wi) (src : Gives X wi Γ (L.map enc))
    (hg : ∀ Y, BlkX X scope Y → PG Y (.Name y py) (gName j)) (hz : L.length ≤ sizeLine) (h : ∀ x ∈ L, ∀ Y, BlkX X scope Y → BV Y elt ((wipeE Γ [j]).set j (.dat (enc x))) (f x))
    (hc : X.calm = true := by rfl) (hs : ∀ x, foldedSetIterable iter X.env x = pure x := by intro _; rfl) : BR X (.ListComp elt [⟨.Name y py, iter, [], 0⟩] scope pos) Γ (.new (L.map f)) := by
  have := br_lc (ifs := []) (is := [j]) (sp := fun x => [enc x]) (keep := fun _ => true) (f := f) (pos := pos) hc nd hi src ok (fun i hi => hi) (fun x hx Y hY => ⟨bg_name (hg Y hY), bts_nil, fun _ => h x hx Y hY⟩) hz hs
  rw [filter_yes] at this
  exact this
/-- [elt for y in iter if c] -/
theorem br_lc1f {α : Type} {elt iter c : Expr} {scope : Scope} {y : Str} {py : Pos} {j : Nat} {wi : TI} {L : List α} {enc : α → PyData} {keep : α → Bool} {f : α → PyData} (nd : X.N.Nodup) (ok : BlkOk X.N X.env.scope scope [(y, j)]) (hi : PI X (.Name y py) iter wi) (src : Gives X wi Γ (L.map enc))
    (hg : ∀ Y, BlkX X scope Y → PG Y (.Name y py) (gName j)) (hz : L.length ≤ sizeLine) (ht : ∀ x ∈ L, ∀ Y, BlkX X scope Y → BT Y c ((wipeE Γ [j]).set j (.dat (enc x))) (keep x)) (h : ∀ x ∈ L, keep x = true → ∀ Y, BlkX X scope Y → BV Y elt ((wipeE Γ [j]).set j (.dat (enc x))) (f x))
    (hc : X.calm = true := by rfl) (hs : ∀ x, foldedSetIterable iter X.env x = pure x := by intro _; rfl) : BR X (.ListComp elt [⟨.Name y py, iter, [c], 0⟩] scope pos) Γ (.new ((L.filter keep).map f)) :=
  br_lc (ifs := [c]) (is := [j]) (sp := fun x => [enc x]) (keep := keep) (f := f) (pos := pos) hc nd hi src ok (fun i hi => hi) (fun x hx Y hY => ⟨bg_name (hg Y hY), bts_one (ht x hx Y hY), fun hk => h x hx hk Y hY⟩) hz hs
/-- [elt for y, z in iter (if c)] -/
theorem br_lc2 {α : Type} {elt iter : Expr} {scope : Scope} {y z : Str} {py pz pt : Pos} {kt : Nat} {j l : Nat} {wi : TI} {L : List α} {enc : α → PyData} {sp1 sp2 : α → PyData} {f : α → PyData} (nd : X.N.Nodup) (ok : BlkOk X.N X.env.scope scope [(y, j), (z, l)]) (hi : PI X (.Tuple [.Name y py, .Name z pz] kt pt) iter wi) (src : Gives X wi Γ (L.map enc))
    (hg : ∀ x ∈ L, ∀ Y, BlkX X scope Y → BG Y (.Tuple [.Name y py, .Name z pz] kt pt) [j, l] (enc x) [sp1 x, sp2 x]) (hz : L.length ≤ sizeLine) (h : ∀ x ∈ L, ∀ Y, BlkX X scope Y → BV Y elt (((wipeE Γ [j, l]).set j (.dat (sp1 x))).set l (.dat (sp2 x))) (f x))
    (hc : X.calm = true := by rfl) (hs : ∀ x, foldedSetIterable iter X.env x = pure x := by intro _; rfl) : BR X (.ListComp elt [⟨.Tuple [.Name y py, .Name z pz] kt pt, iter, [], 0⟩] scope pos) Γ (.new (L.map f)) := by
  have := br_lc (ifs := []) (is := [j, l]) (sp := fun x => [sp1 x, sp2 x]) (keep := fun _ => true) (f := f) (pos := pos) hc nd hi src ok (fun i hi => hi) (fun x hx Y hY => ⟨hg x hx Y hY, bts_nil, fun _ => h x hx Y hY⟩) hz hs
  rw [filter_yes] at this
  exact this
theorem br_lc2f {α : Type} {elt iter c : Expr} {scope : Scope} {y z : Str} {py pz pt : Pos} {kt : Nat} {j l : Nat} {wi : TI} {L : List α} {enc : α → PyData} {sp1 sp2 : α → PyData} {keep : α → Bool} {f : α → PyData} (nd : X.N.Nodup) (ok : BlkOk X.N X.env.scope scope [(y, j), (z, l)]) (hi : PI X (.Tuple [.Name y py, .Name z pz] kt pt) iter wi) (src : Gives X wi Γ (L.map enc))
    (hg : ∀ x ∈ L, ∀ Y, BlkX X scope Y → BG Y (.Tuple [.Name y py, .Name z pz] kt pt) [j, l] (enc x) [sp1 x, sp2 x]) (hz : L.length ≤ sizeLine) (ht : ∀ x ∈ L, ∀ Y, BlkX X scope Y → BT Y c (((wipeE Γ [j, l]).set j (.dat (sp1 x))).set l (.dat (sp2 x))) (keep x))
    (h : ∀ x ∈ L, keep x = true → ∀ Y, BlkX X scope Y → BV Y elt (((wipeE Γ [j, l]).set j (.dat (sp1 x))).set l (.dat (sp2 x))) (f x))
    (hc : X.calm = true := by rfl) (hs : ∀ x, foldedSetIterable iter X.env x = pure x := by intro _; rfl) : BR X (.ListComp elt [⟨.Tuple [.Name y py, .Name z pz] kt pt, iter, [c], 0⟩] scope pos) Γ (.new ((L.filter keep).map f)) :=
  br_lc (ifs := [c]) (is := [j, l]) (sp := fun x => [sp1 x, sp2 x]) (keep := keep) (f := f) (pos := pos) hc nd hi src ok (fun i hi => hi) (fun x hx Y hY => ⟨hg x hx Y hY, bts_one (ht x hx Y hY), fun hk => h x hx hk Y hY⟩) hz hs
/-- two lists walked together: what is left of range -/
theorem range_at {n : Nat} {pre post : List Nat} {m : Nat} (e : List.range n = pre ++ m :: post) : pre = List.range m ∧ m < n := by
  have hl : n = pre.length + (post.length + 1) := by
    have := congrArg List.length e
    simpa using this
  have h1 : (List.range n)[pre.length]? = some m := by rw [e]; simp
  have h2 : m = pre.length := by
    rw [List.getElem?_range (by omega)] at h1
    exact (Option.some.inj h1).symm
  have h3 : pre = (List.range n).take pre.length := by rw [e]; simp
  refine ⟨?_, by omega⟩
  rw [h3, h2, List.take_range]
  congr 1
  omega
/-- for y in range(a) -/
theorem sv_forR {F : List Nat} {P : Po} {i : Nat} {y : Str} {py p : Pos} {body rest : List Stmt} {n : Nat} {ni : Int} {a : Expr} {pos2 : Pos} (I : Nat → En → Prop) (nd : X.N.Nodup) (hg0 : PG X (.Name y py) (gName i)) (hF : i ∉ F) (hp : PassesOwn (model X.prog X.w) X.A X.env X.xe) (hm : X.mg "range" = none) (ha : BV X a Γ (.int ni)) (hn : ni.toNat = n) (hb : -(2 ^ 62) ≤ ni ∧ ni < 2 ^ 62)
    (h0 : I 0 Γ) (hs : ∀ m Γ1, m < n → I m Γ1 → SV X F body (Γ1.set i (.dat (.int (m : Nat)))) { nx := I (m + 1), ct := I (m + 1), bk := fun Γ2 => SV X F rest Γ2 P, rt := P.rt }) (hd : ∀ Γ1, I n Γ1 → SV X F rest Γ1 P) (hg : Gl X "range" := by rfl) (hc : X.calm = true := by rfl)
    (hst : starEach [a] X.env = [(false, eval a X.env)] := by rfl) (hfs : ∀ x, foldedSetIterable (.Call (.Name "range" p) [a] [] pos2) X.env x = pure x := by intro _; rfl) : SV X F (.For (.Name y py) (.Call (.Name "range" p) [a] [] pos2) body [] pos :: rest) Γ P := by
  subst hn
  refine sv_for (L := List.range ni.toNat) (enc := fun i => .int (i : Nat)) (is := [i]) (sp := fun m => [.int (m : Nat)]) hp hc (pi_range1 hg hm (pa_cons (pe_can (e := a)) pa_nil hst) hst) (gv_range1 (hs := hst) ha hb) (fun j hj => by rcases List.mem_singleton.mp hj with rfl; exact hF) (fun m _ => bg_name hg0) (fun pre Γ1 => I pre.length Γ1) h0 (fun pre m post Γ1 e h => ?_) (fun Γ1 h => ?_) hfs
  · obtain ⟨e1, e2⟩ := range_at e
    have el : pre.length = m := by rw [e1, List.length_range]
    rw [el] at h
    rw [show (pre ++ [m]).length = m + 1 by rw [List.length_append, el]; rfl]
    exact hs m Γ1 e2 h
  · rw [List.length_range] at h
    exact hd Γ1 h
/-- a, b, c = e1, e2, e3 -/
theorem sv_par3 {F : List Nat} {P : Po} {i j l : Nat} {x y z : Str} {c : Expr} {px py pz pt pt2 : Pos} {kt k2 : Nat} {rest : List Stmt} (hc : X.calm = true) (hN : X.N.Nodup) (hi : X.N[i]? = some x) (hj : X.N[j]? = some y) (hl : X.N[l]? = some z) (hd : i ≠ j ∧ i ≠ l ∧ j ≠ l) (hx : X.env.scope.names.lookup x = some .local) (hy : X.env.scope.names.lookup y = some .local) (hz : X.env.scope.names.lookup z = some .local) (hF : ∀ m ∈ [i, j, l], m ∉ F)
    (h : EVA X [a, b, c] Γ fun rs Γ1 => ∃ r1 r2 r3, rs = [r1, r2, r3] ∧ (∀ r ∈ rs, isPeek r = none) ∧ SV X F rest (((Γ1.set i (entOf r1)).set j (entOf r2)).set l (entOf r3)) P) (hw : swappedStores [.Tuple [.Name x px, .Name y py, .Name z pz] kt pt] (.Tuple [a, b, c] k2 pt2) X.env = pure (some [x, y, z]) := by rfl)
    (hs : swapsWithSole [.Tuple [.Name x px, .Name y py, .Name z pz] kt pt] (.Tuple [a, b, c] k2 pt2) pos.line X.env = pure false := by rfl) : SV X F (.Assign [.Tuple [.Name x px, .Name y py, .Name z pz] kt pt] (.Tuple [a, b, c] k2 pt2) pos :: rest) Γ P := by
  intro σ B H s D q1 q2 q3 q4
  refine canSs_of (pss_cons (ps_par3 hc hN hi hj hl hd.1 hd.2.1 hd.2.2 hx hy hz (pa_can (es := [a, b, c])) hw hs) (pss_can (ss := rest))) ?_
  refine h σ B H s _ fun vs rs Γ1 B1 H1 o1 g1 ⟨r1, r2, r3, er, hp, h1⟩ => ?_
  subst er
  have o := (Out.s (F := F) o1).putAll (is := [i, j, l]) g1 hp hF (new_notOwned s o1 g1)
  obtain ⟨v, ws, rfl, _, ⟨w, us, rfl, _, ⟨u, ts, rfl, _, t, _⟩, _⟩, _⟩ := g1
  cases (show ts = [] from t)
  exact ⟨v, w, u, rfl, h1.from o q1 q2 q3 q4⟩
theorem bv_tC {n : Int} (h : PE X e (tC (.int n))) : BV X e Γ (.int n) := fun σ B H s Q q => can_of h (q _ B H (.refl s.sub) (.int n))
/-- a[b], b whatever it does -/
theorem ev_ix {ds : List PyData} {Φ : Res → En → Prop} (ha : BV X a Γ (.list ds)) (h : EV X b Γ fun r2 Γ2 => ∃ i d, r2 = .dat (.int i) ∧ L2.atI ds i = some d ∧ Φ (.dat d) Γ2) (hs : PlainIx b := by intro _ _; rfl) : EV X (.Subscript a b pos) Γ Φ := by
  intro σ B H s Q q
  refine can_of (pe_ix ix_list (pe_can (e := a)) (pe_can (e := b)) hs) ?_
  refine ha σ B H s _ fun v1 B1 H1 o1 g1 => ?_
  refine h σ B1 H1 (s.pur o1) _ fun v2 r2 Γ2 B2 H2 o2 g2 ⟨i, d, e2, hd, hq⟩ => ?_
  subst e2
  cases g2
  have g1' : Rp X.K B2 (.list ds) v1 := Rp.up g1 o2.step.ex
  cases g1' with
  | @lst l xs _ hl gl =>
    obtain ⟨v, hv, gv⟩ := gl.atI hd
    exact ⟨_, _, i, v, rfl, rfl, .of (o2.step.sub _ _ hl), hv, q v (.dat d) Γ2 B2 H2 ((o1.out s).trans o2) gv hq⟩
/-- (a, b), a and b whatever they do: data -/
theorem eva_dat2 {Φ : List Res → En → Prop} (h : EV X a Γ fun r1 Γ1 => ∃ d1, r1 = .dat d1 ∧ EV X b Γ1 fun r2 Γ2 => ∃ d2, r2 = .dat d2 ∧ Φ [.dat d1, .dat d2] Γ2) (hs : starEach [a, b] X.env = (false, eval a X.env) :: starEach [b] X.env := by rfl) (hs2 : starEach [b] X.env = (false, eval b X.env) :: starEach [] X.env := by rfl) : EVA X [a, b] Γ Φ :=
  eva_cons (h.mono fun r1 Γ1 ⟨d1, e1, h1⟩ => eva_cons (h1.mono fun r2 Γ2 ⟨d2, e2, h2⟩ => eva_nil ⟨fun i z => by subst e2; (nomatch z), fun i z => by subst e1; (nomatch z), by subst e1 e2; exact h2⟩) hs2) hs
end
end Bv
set_option Elab.async false
set_option autoImplicit false
set_option linter.all false
set_option maxRecDepth 100000
set_option maxHeartbeats 2000000
/-! Bv16: lists of fresh lists: a comprehension that makes them, a for that owns one after another; the script handed on. -/
namespace Bv
open PySem PySem.Spec PyProof.Rows L2

/-- refs: new lists that hold pss, apart, unknown to B -/
structure Fresh (K : PySem.W.Frag) (H0 B H : Hp) (refs : List Addr) (pss : List (List PyData)) : Prop where
  len : refs.length = pss.length
  nd : refs.Nodup
  at' : ∀ (i : Nat) (a : Addr) (ds : List PyData), refs[i]? = some a → pss[i]? = some ds → H0 a = none ∧ B a = none ∧ ∃ ys, H a = some (.lst ys) ∧ RpAll K B ds ys
section
variable {X : Cx} {Γ : En} {e a b : Expr} {r : Res} {pos : Pos}
theorem scr_ent {K : PySem.W.Frag} {B H : Hp} {ns : List Int} {l : Addr} {d : PyData} {v : V} (sub : Same B H) (sq : SqL K B l (ns.map V.int)) (g : Rp K B d v) : Stt K B H [.scr ns, .dat d] ([.ref l, v].map some) := by
  have no : ∀ (i : Nat) (x : Addr), ¬ ownAt [.scr ns, .dat d] ([.ref l, v].map some) i x := fun i x ⟨_, z⟩ => by
    rcases i with _ | _ | i
    · exact z
    · exact z
    · simp at z; exact z
  refine ⟨rfl, sub, fun i t hi => ?_, fun i j x h1 _ => (no i x h1).elim⟩
  rcases i with _ | _ | i
  · cases hi; exact ⟨_, rfl, l, rfl, sq⟩
  · cases hi; exact ⟨_, rfl, v, rfl, g⟩
  · simp at hi
/-- f(script, e) -/
theorem br_ownScr {S : Sb} {k i0 : Nat} {x sn : Str} {ns : List Int} {d : PyData} {p p2 : Pos} (C : Calls X.prog X.w X.K X.mg X.base k x S) (hr : Room k X.A) (hg : Gl X x) (hN : X.N[i0]? = some sn) (hv : Vis X.env.scope sn) (h : Γ[i0]? = some (.scr ns)) (he : BV X e Γ d) (hS : S [.scr ns, .dat d] fun r' _ => r' = r) (hp : isPeek r = none := by rfl)
    (hd : (sn == ("__debug__" : Str)) = false := by decide) (hcd : (sn == ("__classdict__" : Str)) = false := by decide) (hdb : (x == ("__debug__" : Str)) = false := by decide) (hs1 : starEach [.Name sn p2, e] X.env = (false, eval (.Name sn p2) X.env) :: starEach [e] X.env := by rfl) (hs2 : starEach [e] X.env = (false, eval e X.env) :: starEach [] X.env := by rfl)
    (hpl : (backTo pos (starEach [e] X.env)).any (·.1) = false := by rfl) : BR X (.Call (.Name x p) [.Name sn p2, e] [] pos) Γ r := by
  intro σ B H s Q q
  obtain ⟨f, fd, ps, h1, h2, h3, h4⟩ := C.ex
  refine can_of (pe_call h1 hr hg h2 h3 h4 .nil pass0 (pa_cons (pe_var hN hv hd hcd) (pa_cons (pe_can (e := e)) pa_nil hs2) hs1) hdb hs1 hpl) ?_
  obtain ⟨ov, e1, l, e2, sq⟩ := s.ent i0 _ h
  refine ⟨.ref l, by rw [e1, e2], ?_⟩
  refine he σ B H s _ fun v B1 H1 o1 g1 => ?_
  have no : ∀ x, ¬ Owned [.scr ns, .dat d] ([V.ref l, v].map some) x := fun x ⟨i, _, z⟩ => by
    rcases i with _ | _ | i
    · exact z
    · exact z
    · simp at z; exact z
  show toSp X.K S [.ref l, v] H1 Q E0
  refine ⟨B1, _, _, scr_ent o1.sub (same_l o1.ex sq) g1, hS, fun r' v' es' B2 H2 st t gr hq => ?_⟩
  subst hq
  have p2 : Pur B1 H1 B2 H2 := ⟨fun a o h => st.keep a o (no a) h, st.ex, st.sub, fun a h1 h2 => st.new a (no a) h1 h2⟩
  refine q v' B2 H2 (o1.trans p2) ?_
  cases r' with
  | dat d => exact gr
  | new ds => obtain ⟨p, xs, e, h0, z⟩ := gr; exact ⟨p, xs, e, o1.heap.free h0, z⟩
  | newD ds => obtain ⟨p, xs, e, h0, z⟩ := gr; exact ⟨p, xs, e, o1.heap.free h0, z⟩
  | peek i => cases hp
  | pairP i b => cases hp
  | pair a b =>
    obtain ⟨t, p, q, xs, ys, e, t0, ht, n, ⟨p0, pg⟩, h0, g⟩ := gr
    exact ⟨t, p, q, xs, ys, e, o1.heap.free t0, ht, n, ⟨o1.heap.free p0, pg⟩, o1.heap.free h0, g⟩
/-- [elt for y in ..], elt a fresh list at each turn -/
theorem lc_fresh {α : Type} {elt : Expr} {scope : Scope} {y : Str} {py : Pos} {j : Nat} {wi : TI} {L : List α} {enc : α → PyData} {ps : α → List PyData} (src : Gives X wi Γ (L.map enc)) (hg : ∀ Y, BlkX X scope Y → PG Y (.Name y py) (gName j)) (h : ∀ x ∈ L, ∀ Y, BlkX X scope Y → BR Y elt ((wipeE Γ [j]).set j (.dat (enc x))) (.new (ps x))) (hz : L.length ≤ sizeLine)
    {σ : L2.St} {B H : Hp} (s : Stt X.K B H Γ σ) {Q : VK} (q : ∀ D refs B' H', Pur B H B' H' → H D = none → B' D = none → H' D = some (.lst (refs.map V.ref)) → D ∉ refs → Fresh X.K H B' H' refs (L.map ps) → Q (.ref D) H') : tLc wi (tAllG X scope (.Name y py)) (tAllTs X scope []) (tAllE X scope elt) [j] σ H Q := by
  refine src σ B H s _ fun J B1 H1 G Y o1 w hG hY => ?_
  intro D hD
  have hBD : B1 D = none := o1.sub.free hD
  rw [List.length_map] at w hY
  refine lc_it w (fun i H' => ∃ Bi refs, Pur B1 H1 Bi H' ∧ Bi D = none ∧ H' D = some (.lst (refs.map V.ref)) ∧ D ∉ refs ∧ Fresh X.K H1 Bi H' refs ((L.take i).map ps)) ?_ ?_ ?_ ?_
  · exact ⟨B1, [], .grown o1.sub (same_upd hD), hBD, upd_same, List.not_mem_nil, rfl, List.nodup_nil, fun i a ds h => by simp at h⟩
  · intro i H' hi ⟨Bi, refs, o, _⟩
    exact hG H' (o.ex.trans o.sub)
  · intro i v H2 H3 hi ⟨Bi, refs, o, bD, hh, nD, fr⟩ hy
    obtain ⟨d, B2, hd, o2, gd⟩ := hY i v H2 H3 Bi hi o.ex o.sub hy
    rw [List.getElem?_map, List.getElem?_eq_getElem hi] at hd
    have ed : enc L[i] = d := Option.some.inj hd
    subst ed
    have oo := o.trans o2
    have hDn : H2 D ≠ none := by rw [hh]; exact (fun z => nomatch z)
    have b2D : B2 D = none := o2.new D hDn bD
    have h3D : H3 D = some (.lst (refs.map V.ref)) := o2.heap _ _ hh
    have st := (s.pur (o1.trans oo)).wiped [j]
    have on : ∀ {B4 H4 : Hp}, Pur Bi H2 B4 H4 → Fresh X.K H1 B4 H4 refs ((L.take i).map ps) := fun {B4 H4} p => ⟨fr.len, fr.nd, fun m a ds h1 h2 => by
      obtain ⟨z1, z2, ys, z3, z4⟩ := fr.at' m a ds h1 h2
      exact ⟨z1, p.new a (by rw [z3]; exact (fun z => nomatch z)) z2, ys, p.heap _ _ z3, z4.up p.ex⟩⟩
    intro Z hZ
    have hgZ := bg_name (d := enc L[i]) (hg Z hZ)
    have eK : Z.K = X.K := by obtain ⟨_, _, _, _, _, rfl⟩ := hZ; rfl
    refine hgZ (wipe σ [j]) B2 H3 v o2.sub (by rw [eK]; exact gd) _ fun ws gw => ?_
    rw [eK] at gw
    refine ⟨wipe_set (fun _ z => z), ?_⟩
    have st2 := Stt.putAll (is := [j]) st gw
    intro Z2 hZ2
    have eK2 : Z2.K = X.K := by obtain ⟨_, _, _, _, _, rfl⟩ := hZ2; rfl
    refine bts_nil _ B2 H3 (by rw [eK2]; exact st2) _ fun H4 e4 => ?_
    have o4 : Pur B2 H3 B2 H4 := .grown o2.sub e4
    show tAllE X scope elt _ H4 _
    intro Z3 hZ3
    have eK3 : Z3.K = X.K := by obtain ⟨_, _, _, _, _, rfl⟩ := hZ3; rfl
    refine h L[i] (List.getElem_mem hi) Z3 hZ3 _ B2 H4 (by rw [eK3]; exact st2.pur o4) _ fun v5 B5 H5 o5 g5 => ?_
    obtain ⟨p, ys, ev, p0, pb, ph, pg⟩ := g5
    rw [eK3] at pg
    subst ev
    have h4D : H4 D = some (.lst (refs.map V.ref)) := e4 _ _ h3D
    have h5D : H5 D = some (.lst (refs.map V.ref)) := o5.heap _ _ h4D
    have b5D : B5 D = none := o5.new D (by rw [h4D]; exact (fun z => nomatch z)) b2D
    have nDp : p ≠ D := fun z => by subst z; rw [h4D] at p0; cases p0
    have o7 := (o2.trans o4).trans o5
    have o6 := o.trans o7
    have fr5 := on o7
    have np : p ∉ refs := fun z => by
      obtain ⟨m, hm⟩ := List.mem_iff_getElem?.mp z
      have hml : m < ((L.take i).map ps).length := by rw [← fr.len]; exact (List.getElem?_eq_some_iff.mp hm).1
      obtain ⟨_, _, zs, z3, _⟩ := (on (o2.trans o4)).at' m p _ hm (List.getElem?_eq_getElem hml)
      rw [p0] at z3; cases z3
    have et : (L.take (i + 1)).map ps = (L.take i).map ps ++ [ps L[i]] := by
      rw [List.take_add_one, List.getElem?_eq_getElem hi, List.map_append]
      rfl
    refine ⟨refs.map V.ref, h5D, ?_, B5, refs ++ [p], ?_, b5D, ?_, ?_, ?_⟩
    · rw [List.length_map, fr.len, List.length_map, List.length_take]; omega
    · have up : ∀ {Z : Hp}, Z D = none → Same Z H5 → Same Z (upd H5 D (.lst (refs.map V.ref ++ [V.ref p]))) := fun {Z} n e a ob h => by
        have : a ≠ D := fun z => by subst z; rw [n] at h; cases h
        rw [upd_ne this]
        exact e a ob h
      exact ⟨up hD o6.heap, o6.ex, up b5D o6.sub, o6.new⟩
    · rw [upd_same, List.map_append]; rfl
    · intro z
      rcases List.mem_append.mp z with z | z
      · exact nD z
      · exact nDp (List.mem_singleton.mp z).symm
    · rw [et]
      refine ⟨by rw [List.length_append, List.length_append, fr.len]; rfl, List.nodup_append.mpr ⟨fr.nd, by simp, fun a ha b hb => by rw [List.mem_singleton.mp hb]; exact fun z => np (z ▸ ha)⟩, fun m a ds h1 h2 => ?_⟩
      by_cases hm : m < refs.length
      · rw [List.getElem?_append_left hm] at h1
        rw [List.getElem?_append_left (by rw [← fr.len]; exact hm)] at h2
        obtain ⟨z1, z2, zs, z3, z4⟩ := fr5.at' m a ds h1 h2
        have : a ≠ D := fun z => nD (z ▸ List.mem_of_getElem? h1)
        exact ⟨z1, z2, zs, by rw [upd_ne this]; exact z3, z4⟩
      · rw [List.getElem?_append_right (by omega)] at h1
        rw [List.getElem?_append_right (by rw [← fr.len]; omega), ← fr.len] at h2
        have e0 : m - refs.length = 0 := by
          have := (List.getElem?_eq_some_iff.mp h1).1
          simp at this
          omega
        rw [e0] at h1 h2
        have e1 : p = a := Option.some.inj h1
        have e2 : ps L[i] = ds := Option.some.inj h2
        subst e1 e2
        refine ⟨?_, pb, ys, by rw [upd_ne nDp]; exact ph, pg⟩
        have n4 : H4 p = none := p0
        have : H2 p = none := (o2.trans o4).heap.free n4
        exact o.heap.free this
  · intro H2 ⟨Bi, refs, o, bD, hh, nD, fr⟩
    rw [List.take_of_length_le (Nat.le_refl _)] at fr
    have fr' : Fresh X.K H Bi H2 refs (L.map ps) := ⟨fr.len, fr.nd, fun m a ds h1 h2 => by
      obtain ⟨z1, z⟩ := fr.at' m a ds h1 h2
      exact ⟨o1.heap.free z1, z⟩⟩
    exact q D refs Bi H2 (o1.trans o) (o1.heap.free hD) bD hh nD fr'
theorem own_set {Γ' : En} {σ' : L2.St} {i j : Nat} {t : Ent} {v : Option V} {x : Addr} (h : ownAt (Γ'.set i t) (σ'.set i v) j x) : v = some (.ref x) ∨ ownAt Γ' σ' j x := by
  obtain ⟨h1, h2⟩ := h
  by_cases e : i = j
  · subst e
    by_cases hl : i < σ'.length
    · rw [List.getElem?_set_self hl] at h1
      exact .inl (Option.some.inj h1)
    · rw [List.getElem?_eq_none (by rw [List.length_set]; omega)] at h1
      cases h1
  · rw [List.getElem?_set_ne e] at h1 h2
    exact .inr ⟨h1, h2⟩
/-- for y in e, e a list of fresh lists: y owns one after another -/
theorem sv_forFresh {F : List Nat} {P : Po} {i : Nat} {y : Str} {py : Pos} {iter : Expr} {body rest : List Stmt} (Cond : List (List PyData) → Prop) (I : Nat → En → Prop) (hp : PassesOwn (model X.prog X.w) X.A X.env X.xe) (hg : PG X (.Name y py) (gName i)) (hF : i ∉ F)
    (hcall : ∀ σ B H, Stt X.K B H Γ σ → ∀ Q : VK, (∀ D refs pss B' H', Pur B H B' H' → H D = none → B' D = none → H' D = some (.lst (refs.map V.ref)) → D ∉ refs → Fresh X.K H B' H' refs pss → Cond pss → Q (.ref D) H') → tCan X iter σ H Q)
    (h0 : I 0 Γ) (hs : ∀ pss, Cond pss → ∀ k ps Γ1, pss[k]? = some ps → I k Γ1 → SV X F body (Γ1.set i (.own ps)) { nx := I (k + 1), ct := I (k + 1), rt := P.rt }) (hd : ∀ k Γ1, I k Γ1 → SV X F rest Γ1 P) (hc : X.calm = true := by rfl)
    (hfs : ∀ x, foldedSetIterable iter X.env x = pure x := by intro _; rfl) : SV X F (.For (.Name y py) iter body [] pos :: rest) Γ P := by
  intro σ B H s D0 q1 q2 q3 q4
  refine canSs_of (pss_cons (ps_for hp hc (pi_list (pe_can (e := iter))) hg (pss_can (ss := body)) hfs) (pss_can (ss := rest))) ?_
  refine hcall σ B H s _ fun D refs pss B1 H1 o1 hD bD hh nD fr hcd => ?_
  refine ⟨D, rfl, ⟨_, .of hh⟩, ?_⟩
  refine for_it (walk_list (K := X.K) (a := D) (xs := refs.map V.ref)) (fun m σ' H' => ∃ Γ' B', OutS X.K F σ Γ B H σ' Γ' B' H' ∧ I m Γ' ∧ H' D = some (.lst (refs.map V.ref)) ∧ ¬ Owned Γ' σ' D ∧
    ∀ j a ds, m ≤ j → refs[j]? = some a → pss[j]? = some ds → B' a = none ∧ ¬ Owned Γ' σ' a ∧ ∃ ys, H' a = some (.lst ys) ∧ RpAll X.K B' ds ys) ?_ ?_ ?_ ?_
  · refine ⟨Γ, B1, o1.s s, h0, hh, fun z => (s.there z).1 hD, fun j a ds _ ha hds => ?_⟩
    obtain ⟨z1, z2, z3⟩ := fr.at' j a ds ha hds
    exact ⟨z2, fun z => (s.there z).1 z1, z3⟩
  · intro m σ' H' _ ⟨Γ', B', _, _, hD', _⟩
    exact .of hD'
  · intro m x σ' H2 H3 hm ⟨Γ', B', o, hI, hD', nO, hrest⟩ hy
    obtain ⟨e3, hx⟩ := hy
    subst e3
    rw [List.getElem?_map] at hx
    cases ha : refs[m]? with
    | none => rw [ha] at hx; cases hx
    | some a =>
      rw [ha] at hx
      have ex : V.ref a = x := Option.some.inj hx
      subst ex
      have hmp : m < pss.length := by rw [← fr.len]; exact (List.getElem?_eq_some_iff.mp ha).1
      have hps : pss[m]? = some pss[m] := List.getElem?_eq_getElem hmp
      obtain ⟨b1, b2, ys, b3, b4⟩ := hrest m a _ (Nat.le_refl _) ha hps
      obtain ⟨f1, _⟩ := fr.at' m a _ ha hps
      have o2 := o.put (i := i) (r := .new pss[m]) (v := .ref a) ⟨a, ys, rfl, b1, b3, b4⟩ (fun _ a' e => by cases e; exact ⟨f1, b2⟩) hF
      have notD : ¬ Owned (Γ'.set i (.own pss[m])) (σ'.set i (some (.ref a))) D := fun ⟨j, z⟩ => by
        rcases own_set z with e | z
        · cases e; exact nD (List.mem_of_getElem? ha)
        · exact nO ⟨j, z⟩
      have notA : ∀ j c ds, m + 1 ≤ j → refs[j]? = some c → pss[j]? = some ds → ¬ Owned (Γ'.set i (.own pss[m])) (σ'.set i (some (.ref a))) c := fun j c ds hj hc hds ⟨l, z⟩ => by
        rcases own_set z with e | z
        · cases e
          have h1 := (List.getElem?_eq_some_iff.mp ha).1
          have h2 := (List.getElem?_eq_some_iff.mp hc).1
          have := (List.getElem?_inj h1 fr.nd).mp (ha.trans hc.symm)
          omega
        · exact (hrest j c ds (by omega) hc hds).2.1 ⟨l, z⟩
      have step : ∀ Γ4 σ4 B4 H4, OutS X.K F (σ'.set i (some (.ref a))) (Γ'.set i (.own pss[m])) B' H3 σ4 Γ4 B4 H4 → I (m + 1) Γ4 → ∃ Γ' B', OutS X.K F σ Γ B H σ4 Γ' B' H4 ∧ I (m + 1) Γ' ∧ H4 D = some (.lst (refs.map V.ref)) ∧ ¬ Owned Γ' σ4 D ∧
          ∀ j a ds, m + 1 ≤ j → refs[j]? = some a → pss[j]? = some ds → B' a = none ∧ ¬ Owned Γ' σ4 a ∧ ∃ ys, H4 a = some (.lst ys) ∧ RpAll X.K B' ds ys := fun Γ4 σ4 B4 H4 o4 z => by
        refine ⟨Γ4, B4, o2.trans o4, z, o4.step.keep D _ notD hD', fun ⟨l, w⟩ => ?_, fun j c ds hj hc hds => ?_⟩
        · rcases o4.own l D w with w | w
          · exact notD ⟨l, w⟩
          · rw [hD'] at w; cases w
        · obtain ⟨c1, c2, zs, c3, c4⟩ := hrest j c ds (by omega) hc hds
          have nA := notA j c ds hj hc hds
          refine ⟨o4.step.new c nA (by rw [c3]; exact (fun z => nomatch z)) c1, fun ⟨l, w⟩ => ?_, zs, o4.step.keep c _ nA c3, c4.up o4.step.ex⟩
          rcases o4.own l c w with w | w
          · exact nA ⟨l, w⟩
          · rw [c3] at w; cases w
      refine hs pss hcd m _ Γ' hps hI (σ'.set i (some (.ref a))) B' H3 o2.st _ ?_ ?_ ?_ ?_
      · exact step
      · intro r v Γ4 σ4 B4 H4 o4 g z
        exact q2 r v Γ4 σ4 B4 H4 (o2.trans o4) (g.back o2.step.dom) z
      · intro Γ4 σ4 B4 H4 o4 z
        exact z.elim
      · exact step
  · intro σ' H' ⟨Γ', B', o, hI, _⟩
    exact (hd _ Γ' hI).from o q1 q2 q3 q4
end
end Bv
set_option Elab.async false
set_option autoImplicit false
set_option linter.all false
set_option maxRecDepth 100000
set_option maxHeartbeats 2000000
/-! Bv17: keyword calls that may give more than one thing; a list that is data is lengthened, what is flat stays known. -/
namespace Bv
open PySem PySem.Spec PyProof.Rows L2
section
variable {X : Cx} {Γ : En} {e a b : Expr} {r : Res} {pos : Pos} {Φ : Res → En → Prop}
theorem sp_pureP {K : PySem.W.Frag} {S : Sb} {B H B1 H1 : Hp} {ds : List PyData} {vs : List V} {Q : VK} {E : XK} {σ : L2.St} (o : Pur B H B1 H1) (g : RpAll K B1 ds vs) (h : S (ds.map .dat) fun r' _ => isPeek r' = none ∧ Φ r' Γ) (q : ∀ v r B' H', Pur B H B' H' → ResR K H B' H' Γ σ r v → Φ r Γ → Q v H') : toSp K S vs H1 Q E := by
  have no : ∀ a, ¬ Owned (ds.map Ent.dat) (vs.map some) a := fun a ⟨i, _, z⟩ => by
    rw [List.getElem?_map] at z
    cases e : ds[i]? with
    | none => rw [e] at z; exact z
    | some d => rw [e] at z; exact z
  refine ⟨B1, _, _, ⟨by rw [List.length_map, List.length_map, g.len], o.sub, fun i t hi => ?_, fun i j a h1 _ => (no a ⟨i, h1⟩).elim⟩, h, fun r' v es' B2 H2 st t gr hq => ?_⟩
  · rw [List.getElem?_map] at hi
    cases e : ds[i]? with
    | none => rw [e] at hi; cases hi
    | some d =>
      rw [e] at hi
      have et : Ent.dat d = t := Option.some.inj hi
      subst et
      obtain ⟨v, hv, gv⟩ := g.get e
      exact ⟨some v, by rw [List.getElem?_map, hv]; rfl, v, rfl, gv⟩
  · obtain ⟨hp, hφ⟩ := hq
    have p2 : Pur B1 H1 B2 H2 := ⟨fun a o h => st.keep a o (no a) h, st.ex, st.sub, fun a h1 h2 => st.new a (no a) h1 h2⟩
    refine q v r' B2 H2 (o.trans p2) ?_ hφ
    cases r' with
    | dat d => exact gr
    | new ds => obtain ⟨p, xs, e, h0, z⟩ := gr; exact ⟨p, xs, e, o.heap.free h0, z⟩
    | newD ds => obtain ⟨p, xs, e, h0, z⟩ := gr; exact ⟨p, xs, e, o.heap.free h0, z⟩
    | peek i => cases hp
    | pairP i b => cases hp
    | pair a b =>
      obtain ⟨t, p, q, xs, ys, e, t0, ht, n, ⟨p0, pg⟩, h0, g⟩ := gr
      exact ⟨t, p, q, xs, ys, e, o.heap.free t0, ht, n, ⟨o.heap.free p0, pg⟩, o.heap.free h0, g⟩
theorem ev_ownK {S : Sb} {k : Nat} {x : Str} {p : Pos} {ds ds' : List PyData} {ks : List Str} {kws : List Keyword} {gV : List V → List V → List V} (C : CallsK X.prog X.w X.K X.mg X.base k x ks gV S) (hr : Room k X.A) (hg : Gl X x) (h : BK X kws Γ ds) (hgv : ∀ B zs, RpAll X.K B ds zs → RpAll X.K B ds' (gV [] zs)) (hS : S (ds'.map .dat) fun r' _ => isPeek r' = none ∧ Φ r' Γ)
    (hall : (backToKw pos (keywordEach kws X.env)).all (·.1.isSome) = true := by rfl) (hks : (backToKw pos (keywordEach kws X.env)).filterMap (·.1) = ks := by rfl)
    (hdb : (x == ("__debug__" : Str)) = false := by decide) (hpl : ((backTo pos (starEach [] X.env)).any (·.1) || (backToKw pos (keywordEach kws X.env)).any (·.1.isNone)) = false := by rfl) : EV X (.Call (.Name x p) [] kws pos) Γ Φ := by
  obtain ⟨f, fd, ps, g, h1, h2, h3, h4⟩ := C.ex
  obtain ⟨tk, k1, k2⟩ := h
  intro σ B H s Q q
  refine can_of (pe_callK0 (E := E0) h1 hr hg h2 h3 h4 pass0 k1 hall hks hdb hpl) ?_
  refine k2 σ B H s _ fun vs B1 H1 o1 g1 => ?_
  exact sp_pureP o1 (hgv _ _ g1) hS fun v r B' H' o gr hφ => q v r Γ B' H' (o.out s) gr hφ
/-- data that no list of lists stands in -/
def flat : PyData → Prop
  | .none => True
  | .bool _ => True
  | .int _ => True
  | .str _ => True
  | .list ds => ∃ ns : List Int, ds = ns.map .int
  | _ => False
theorem Rp.cut {K : PySem.W.Frag} {B : Hp} {p q : Addr} {vs : List V} (hp : B p = some (.lst (.ref q :: vs))) {d : PyData} {v : V} (h : Rp K B d v) (hf : flat d) : Rp K (fun b => if b = p then none else B b) d v := by
  cases h with
  | non => exact .non
  | bl b => exact .bl b
  | int i => exact .int i
  | str x => exact .str x
  | @lst a xs ds h g =>
    obtain ⟨ns, e⟩ := hf
    subst e
    have e2 := g.ints
    subst e2
    have : a ≠ p := fun z => by
      subst z
      rw [hp] at h
      cases ns with
      | nil => cases h
      | cons n ns => cases h
    exact .lst (by rw [if_neg this]; exact h) (RpAll.of_ints ns)
  | tup h g => exact hf.elim
  | dic h => exact hf.elim
theorem rpAll_cut {K : PySem.W.Frag} {B : Hp} {p q : Addr} {vs : List V} (hp : B p = some (.lst (.ref q :: vs))) : ∀ {ds : List PyData} {xs : List V}, RpAll K B ds xs → (∀ d ∈ ds, flat d) → RpAll K (fun b => if b = p then none else B b) ds xs
  | [], _, g, _ => by cases g; exact .nil
  | d :: ds, _, g, h => by
    cases g with
    | cons g1 g2 => exact .cons (g1.cut hp (h d List.mem_cons_self)) (rpAll_cut hp g2 fun z hz => h z (List.mem_cons_of_mem _ hz))
/-- a list of lists that was data is written: what is flat, and what is owned, stays known -/
theorem Stt.cut {K : PySem.W.Frag} {B H : Hp} {Γ' : En} {σ : L2.St} {p q : Addr} {vs : List V} {o : HO} (s : Stt K B H Γ σ) (hp : B p = some (.lst (.ref q :: vs))) (hlen : Γ'.length = Γ.length)
    (hΓ : ∀ (i : Nat) (t : Ent), Γ'[i]? = some t → t = .no ∨ (∃ d, Γ[i]? = some (.dat d) ∧ t = .dat d ∧ flat d) ∨ ∃ ps, Γ[i]? = some (.own ps) ∧ t = .own ps ∧ ∀ d ∈ ps, flat d) : Stt K (fun b => if b = p then none else B b) (upd H p o) Γ' σ := by
  have ow : ∀ {i a}, ownAt Γ' σ i a → ownAt Γ σ i a := fun {i a} ⟨h1, h2⟩ => by
    refine ⟨h1, ?_⟩
    cases e : Γ'[i]? with
    | none => rw [e] at h2; exact h2.elim
    | some t =>
      rcases hΓ i t e with rfl | ⟨d, _, rfl, _⟩ | ⟨ps, z, rfl, _⟩
      · rw [e] at h2; exact h2.elim
      · rw [e] at h2; exact h2.elim
      · rw [z]; trivial
  refine ⟨hlen.trans s.len, fun b z hb => ?_, fun i t hi => ?_, fun i j a h1 h2 => s.sep i j a (ow h1) (ow h2)⟩
  · by_cases e : b = p
    · rw [if_pos e] at hb; cases hb
    · rw [if_neg e] at hb
      rw [upd_ne e]
      exact s.sub b z hb
  · rcases hΓ i t hi with rfl | ⟨d, h1, rfl, hf⟩ | ⟨ps, h1, rfl, hf⟩
    · have hl : i < σ.length := by rw [← s.len, ← hlen]; exact (List.getElem?_eq_some_iff.mp hi).1
      exact ⟨σ[i], List.getElem?_eq_getElem hl, trivial⟩
    · obtain ⟨ov, k1, v, k2, k3⟩ := s.ent i _ h1
      exact ⟨ov, k1, v, k2, k3.cut hp hf⟩
    · obtain ⟨ov, k1, a, ys, k2, k3, k4, k5⟩ := s.ent i _ h1
      have : a ≠ p := fun z => by subst z; rw [hp] at k3; cases k3
      exact ⟨ov, k1, a, ys, k2, by show (if a = p then none else B a) = none; rw [if_neg this]; exact k3, by rw [upd_ne this]; exact k4, rpAll_cut hp k5 hf⟩
theorem execs_app (env : Env) (rest : List Stmt) : ∀ mid : List Stmt, execs (mid ++ rest) env = (execs mid env >>= fun f => match f with | .next => execs rest env | f => pure f)
  | [] => by
    show execs rest env = (execs [] env >>= _)
    rw [show execs [] env = pure Flow.next from rfl, pure_bind]
  | s :: mid => by
    have ih := execs_app env rest mid
    show execs (s :: (mid ++ rest)) env = _
    rw [execs_cons, execs_cons, ih, bind_assoc]
    congr 1
    funext f
    cases f with
    | next => rfl
    | _ => rw [pure_bind]
/-- a body in two parts -/
theorem canSs_app {mid rest : List Stmt} {D : Ends} {σ : L2.St} {H : Hp} (h : tCanSs X mid { D with nx := fun σ' H' => tCanSs X rest D σ' H' } σ H) : tCanSs X (mid ++ rest) D σ H := fun pins s I => by
  rw [execs_app]
  refine wpAny_bind (thn (h pins s I) fun f s1 q => ?_)
  cases f with
  | next => obtain ⟨σ', H', I', q⟩ := q; exact q pins s1 I'
  | brk => exact wpAny_pure q
  | cont => exact wpAny_pure q
  | ret v => exact wpAny_pure q
/-- what a body has done, told to the caller -/
theorem run_fin {X : Cx} {N : List Str} {vs : List V} {B H : Hp} {Q : VK} {es : En} {Φ : Res → En → Prop} {fix : List Nat} {r : Res} {v : V} {Γ' : En} {σ' : L2.St} {B' H' : Hp} (hown : ∀ i, isOwn es[i]? → i ∈ fix) (s0 : Stt X.K B H es (vs.map some))
    (q : ∀ r v es' B' H', Step (Owned es (vs.map some)) B H B' H' → Stt X.K B' H' es' (vs.map some) → ResR X.K H B' H' [] [] r v → Φ r es' → Q v H') (o : OutS X.K fix (start N vs) (startE N es) B H σ' Γ' B' H') (g : ResR X.K H B' H' [] [] r v) (z : Φ r (outs es Γ')) : Q v H' := by
  obtain ⟨s1, ow⟩ := start_st (N := N) s0
  have hl : es.length = vs.length := by rw [s0.len, List.length_map]
  refine q r v (outs es Γ') B' H' ?_ ?_ g z
  · refine ⟨o.step.ex, o.step.sub, fun a ob n h => o.step.keep a ob (fun ⟨i, hi⟩ => n ⟨i, (ow i a).mp hi⟩) h, o.step.dom, fun a n h1 h2 => o.step.new a (fun ⟨i, hi⟩ => n ⟨i, (ow i a).mp hi⟩) h1 h2⟩
  · have oe : ∀ {i : Nat} {a : Addr}, ownAt (outs es Γ') (vs.map some) i a → ownAt es (vs.map some) i a := fun {i a} ⟨x1, x2⟩ => by
      refine ⟨x1, ?_⟩
      cases e : (outs es Γ')[i]? with
      | none => rw [e] at x2; exact x2.elim
      | some t =>
        rcases outs_get es Γ' i t e with ⟨h1, _⟩ | ⟨h1, h2⟩
        · exact h1
        · rw [e] at x2; rw [h2]; exact x2
    refine ⟨by rw [outs_len]; exact s0.len, o.step.sub, fun i t ht => ?_, fun i j a h1 h2 => s0.sep i j a (oe h1) (oe h2)⟩
    rcases outs_get es Γ' i t ht with ⟨h1, h2⟩ | ⟨h1, h2⟩
    · have hi := hown i h1
      have hlt : i < es.length := by
        by_cases h : i < es.length
        · exact h
        · rw [List.getElem?_eq_none (by omega)] at h1; exact h1.elim
      have e1 : σ'[i]? = (vs.map some)[i]? := by
        rw [o.fix i hi]
        exact List.getElem?_append_left (by rw [List.length_map, ← hl]; exact hlt)
      have e2 : (vs.map some)[i]? = some (some (vs[i]'(by omega))) := by rw [List.getElem?_map, List.getElem?_eq_getElem (by omega)]; rfl
      have hlt' : i < Γ'.length := by
        rw [o.st.len]
        by_cases h : i < σ'.length
        · exact h
        · rw [List.getElem?_eq_none (by omega), e2] at e1; cases e1
      have e3 : Γ'[i]? = some t := by
        rw [List.getElem?_eq_getElem hlt'] at h2 ⊢
        exact congrArg some h2.symm
      obtain ⟨ov, k1, k2⟩ := o.st.ent i t e3
      exact ⟨ov, by rw [← e1]; exact k1, k2⟩
    · obtain ⟨ov, k1, k2⟩ := s0.ent i t h2
      refine ⟨ov, k1, ?_⟩
      cases t with
      | no => exact k2
      | dat d => obtain ⟨v, e, g⟩ := k2; exact ⟨v, e, g.up o.step.ex⟩
      | own ds => exact absurd (by rw [h2]; trivial) h1
      | dic ds => exact absurd (by rw [h2]; trivial) h1
      | scr ns => obtain ⟨l, e, g⟩ := k2; exact ⟨l, e, same_l o.step.ex g⟩
/-- a def whose body is run by hand, no repr under way -/
theorem fnG_raw {P : Program} {w : World} {K : PySem.W.Frag} {mg : Str → Option Value} {base : Heap} {x qual : Str} {stm : Stmt} {f : Addr} {fd : FuncData} {N ps : List Str} {k : Nat} {sp : Sp} (F : Fun K x qual stm f fd) (Sc : FnScope N ps (defScope stm)) (size : ∀ xs G R E, sp xs G R E → xs.length = ps.length)
    (body : ∀ (cdv : Value) (A : Around) (outer : List Env) (s : Shared) (H : Hp) (E : XK) (vs : List V) (Q : VK), A.guards = some [] → Room k (A.deeper (envOfC qual (defScope stm) s.heap.objs.size f cdv)) → sp vs H Q E → tCanSs (cxOf CX0 P w K mg base N qual (defScope stm) f cdv A outer s H E).nox (defBody stm) { nx := fun _ H' => Q .non H', rt := Q } (start N vs) H) : FnG P w K mg base (k + 1) f fd ps sp := by
  obtain ⟨oc, od, kV, doc, pm, an, cdv, ct, osl, rfl, lk, hcode⟩ := F.ex
  refine ⟨size, fun A envs st G ag vals xs R E room hgd env0 bind rel hsp => ?_⟩
  have lens := size _ _ _ _ hsp
  have kept : ∀ b o, base.get? b = some o → st.heap.get? b = some o := fun b o e => (env0.bs b o e).1
  have inK : K.In st.heap := env0.mod.kin.keeps kept
  have noLim : st.heap.NoLimit := env0.mod.nolimit.keeps kept
  refine codeAny_call_function room.depth (inK _ _ lk) (by rfl) Sc.co Sc.gen (by rfl) (PySem.W.codeRec_of inK hcode) (bind _ _ _ _ ?_)
  refine wpAny_newFunctionEnv_cells Sc.kind (fun ⟨n, v⟩ hy => ?_) fun env hE st1 inC => ?_
  · rcases Sc.par n (List.of_mem_zip hy).1 with z | z
    · exact Or.inl z
    · exact Or.inr ⟨z, PySem.W.cellsFrom_some _ _ _ (Or.inl z)⟩
  · subst hE
    refine ⟨noLim.keeps inC.toInCall.keep, codeAny_func ?_⟩
    have start0 : Inv (cxOf CX0 P w K mg base N qual (defScope stm) f cdv A envs st G E) [] (start N xs) G st1 := inv_start Sc room.hd env0 lens rel inC
    have rb := body cdv A envs st G E xs R hgd (room.deeper _) hsp
    have pss : PSs (cxOf CX0 P w K mg base N qual (defScope stm) f cdv A envs st G E) (defBody stm) _ := (pss_can (X := (cxOf CX0 P w K mg base N qual (defScope stm) f cdv A envs st G E).nox) (ss := defBody stm)).nox
    refine wpAny_mono (pss.run [] st1 _ G _ start0 rb) (fun way st2 h2 => ?_) fun _ _ z => z
    have close : ∀ {σ2 : L2.St} {G2 : Hp} {v : V} {u : Value}, Inv (cxOf CX0 P w K mg base N qual (defScope stm) f cdv A envs st G E) [] σ2 G2 st2 → RelV v u → R v G2 → CE envs P w G st R u st2 :=
      fun {σ2 G2 v u} J rv z => ⟨v, G2, J.os, J.bare, J.base, J.hok, rv, z⟩
    cases way with
    | ret u => obtain ⟨v, σ2, G2, J, rv, z⟩ := h2; exact close J rv z
    | next => obtain ⟨σ2, G2, J, z⟩ := h2; exact close (v := .non) (u := .none) J rfl z
    | brk => obtain ⟨_, _, _, z⟩ := h2; exact z.elim
    | cont => obtain ⟨_, _, _, z⟩ := h2; exact z.elim
end
end Bv
set_option Elab.async false
set_option autoImplicit false
set_option linter.all false
set_option maxRecDepth 100000
set_option maxHeartbeats 2000000
/-! Bv18: tests that act; and, a[b] that act; an environment said anew; a law over FnG. -/
namespace Bv
open PySem PySem.Spec PyProof.Rows L2
/-- a test, whatever it does -/
def ET (X : Cx) (c : Expr) (Γ : En) (Φ : Bool → En → Prop) : Prop := ∀ σ B H, Stt X.K B H Γ σ → ∀ Q : Bool → Hp → Prop, (∀ k Γ' B' H', Out X.K σ Γ B H Γ' B' H' → Φ k Γ' → Q k H') → tCanT X c σ H Q
section
variable {X : Cx} {Γ : En} {e a b c : Expr} {pos : Pos} {F : List Nat} {P : Po} {rest body orelse : List Stmt}
theorem et_val {Φ : Bool → En → Prop} (h : EV X e Γ fun r Γ1 => ∃ k, r = .dat (.bool k) ∧ Φ k Γ1) (he : ∀ whole, isTrue e X.env whole = (do let v ← whole; standAt e.pos; holding [v] (truthy v)) := by intro _; rfl) : ET X e Γ Φ := by
  intro σ B H s Q q
  refine canT_of (pt_val (pe_can (e := e)) he) ?_
  refine h σ B H s _ fun v r Γ1 B1 H1 o1 g1 ⟨k, er, hk⟩ => ?_
  subst er
  cases g1
  exact ⟨k, rfl, q k Γ1 B1 H1 o1 hk⟩
theorem et_not {Φ : Bool → En → Prop} (h : ET X e Γ fun k Γ1 => Φ (!k) Γ1) : ET X (.UnaryOp .Not e pos) Γ Φ := fun σ B H s Q q => canT_of (pt_not (pt_can (e := e))) (h σ B H s _ fun k Γ1 B1 H1 o1 hk => q _ Γ1 B1 H1 o1 hk)
theorem sv_ifE (h : ET X c Γ fun k Γ1 => (k = true → SV X F body Γ1 { P with nx := fun Γ2 => SV X F rest Γ2 P }) ∧ (k = false → SV X F orelse Γ1 { P with nx := fun Γ2 => SV X F rest Γ2 P })) : SV X F (.If c body orelse pos :: rest) Γ P := by
  intro σ B H s D q1 q2 q3 q4
  refine canSs_of (pss_cons (ps_if (pt_can (e := c)) (pss_can (ss := body)) (pss_can (ss := orelse))) (pss_can (ss := rest))) ?_
  refine h σ B H s _ fun k Γ1 B1 H1 o1 ⟨h1, h2⟩ => ?_
  have o : OutS X.K F σ Γ B H σ Γ1 B1 H1 := Out.s o1
  have nxt : ∀ Γ' σ' B' H', OutS X.K F σ Γ B H σ' Γ' B' H' → SV X F rest Γ' P → tCanSs X rest D σ' H' := fun Γ' σ' B' H' o' z => z.from o' q1 q2 q3 q4
  cases k with
  | true => exact (h1 rfl).from (D := { D with nx := tCanSs X rest D }) o nxt q2 q3 q4
  | false => exact (h2 rfl).from (D := { D with nx := tCanSs X rest D }) o nxt q2 q3 q4
theorem sv_whenE (h : ET X c Γ fun k Γ1 => (k = true → SV X F body Γ1 { P with nx := fun Γ2 => SV X F rest Γ2 P }) ∧ (k = false → SV X F rest Γ1 P)) : SV X F (.If c body [] pos :: rest) Γ P :=
  sv_ifE fun σ B H s Q q => h σ B H s Q fun k Γ1 B1 H1 o1 ⟨h1, h2⟩ => q k Γ1 B1 H1 o1 ⟨h1, fun z => sv_nil (h2 z)⟩
end
def isStar : Expr → Bool
  | .Starred _ _ => true
  | _ => false
theorem star_no {e : Expr} {es : List Expr} {env : Env} (h : isStar e = false) : starEach (e :: es) env = (false, eval e env) :: starEach es env := by
  cases e <;> first | rfl | cases h
theorem ba_c {X : Cx} {Γ : En} {e : Expr} {es : List Expr} {d : PyData} {ds : List PyData} (h : BV X e Γ d) (t : BA X es Γ ds) (hs : isStar e = false := by rfl) : BA X (e :: es) Γ (d :: ds) := ba_cons h t (star_no hs)
theorem eva_c {X : Cx} {Γ : En} {e : Expr} {es : List Expr} {Φ : List Res → En → Prop} (h : EV X e Γ fun r Γ1 => EVA X es Γ1 fun rs Γ2 => (∀ i, isPeek r = some i → isOwn Γ2[i]?) ∧ Φ (r :: rs) Γ2) (hs : isStar e = false := by rfl) : EVA X (e :: es) Γ Φ := eva_cons h (star_no hs)
/-- written whole numbers -/
def intsE : List Expr → Option (List Int)
  | [] => some []
  | .Constant (.int i) _ _ :: es => (intsE es).map (i :: ·)
  | _ => none
theorem ba_intsE {X : Cx} {Γ : En} : ∀ {es : List Expr} {ns : List Int}, intsE es = some ns → BA X es Γ (ns.map .int)
  | [], ns, h => by
    cases h
    exact ba_nil
  | e :: es, ns, h => by
    unfold intsE at h
    split at h
    · rename_i q
      cases q
    · rename_i q
      cases q
      cases h2 : intsE es with
      | none => rw [h2] at h; cases h
      | some ms =>
        rw [h2] at h
        cases h
        exact ba_c bv_int (ba_intsE h2)
    · cases h
/-- a def of the script alone: what its promise asks at the law's own call -/
theorem sp_script {K : PySem.W.Frag} {S : Sb} {a : Addr} {ns : List Int} {G : Hp} {E : XK} (sq : SqL K G a (ns.map V.int)) (h : S [.scr ns] fun r _ => r = .dat (.bool true)) : toSp K S [.ref a] G (fun v _ => v = .bl true) E := by
  have no : ∀ (i : Nat) (x : Addr), ¬ ownAt [.scr ns] ([V.ref a].map some) i x := fun i x ⟨_, z⟩ => by
    rcases i with _ | i
    · exact z
    · simp at z; exact z
  refine ⟨G, _, _, ⟨rfl, fun _ _ h => h, fun i t hi => ?_, fun i j x h1 _ => (no i x h1).elim⟩, h, fun r v es' B2 H2 st t gr hq => ?_⟩
  · rcases i with _ | i
    · cases hi; exact ⟨_, rfl, a, rfl, sq⟩
    · simp at hi
  · subst hq
    cases gr
    rfl
theorem walk_ofG {l : PySem.W.OpenLaw} {n k : Nat} {q : Program} {loose : List Str} {XP : (Str → Option Value) → Heap → Prop} {YP : World → Heap → Prop} {d : DefRec} {x : Str}
    (hn : l.most = some n) (hn2 : n ≤ sizeLine) (hdf : d.params.defaults = []) (hr : Room k callerA)
    (F : ∀ (w : World) (mg : Str → Option Value) (fa : Addr) (h : Heap), YP w h → h.Ns mainGlobals mg → mg d.name = some (.ref fa) →
      ∃ (K : PySem.W.Frag) (fd : FuncData) (sp : Sp), K.In h ∧ (∀ (s : Shared) (u : Value), BindsTo s fd ⟨[u], []⟩ [(x, u)]) ∧
        (∀ (H : Hp) (a : Addr) (ns : List Int), ns.length ≤ n → Only H → SqL K H a (ns.map V.int) → sp [.ref a] H (fun v _ => v = .bl true) fun _ _ _ => False) ∧
        ∀ base : Heap, K.In base → base.Ns mainGlobals mg → FnG l.prog w K mg base k fa fd [x] sp) :
    PySem.W.WalkO q loose XP YP l.row.toRowW d [] (fun f vs => PySem.call f vs) := by
  refine Att.attach_call hn hdf fun w s₀ s₁ mg mb fa o pm cd doc a vs ns G Y ho hd hcd hmg hobj hints hlen hg => ?_
  obtain ⟨K, fd, sp, KX, hb, hsp, hF⟩ := F w mg fa _ Y G.T.g hmg
  exact lawG_call KX G.T.g G.T.b G.T.builtins G.T.nolimit hg hobj hints (Nat.le_trans hlen hn2) hr hF hb (fun H hO hS => hsp H a ns hlen hO hS)
end Bv
set_option Elab.async false
set_option autoImplicit false
set_option linter.all false
set_option maxRecDepth 100000
set_option maxHeartbeats 2000000
/-! K0: the names of the defs and blocks of k75 (printed by gen/blocks.py). -/
namespace K75
open PySem PySem.Spec PyProof.Rows L2 Bv
def top (i : Nat) : Stmt := PySem.Challenge.pw_straightcuts_k75_whole_moves.main.body.getD i (.Pass ⟨0, 0, 0, 0⟩)
def scp (ns : List (Str × NameKind)) : Scope := { kind := .function, names := ns, isGenerator := false, isCoroutine := false, more := [] }
-- 1 is_whole
abbrev N1 : List Str := ["value"]
theorem sc1 : FnScope N1 ["value"] (defScope (top 1)) := ⟨rfl, rfl, rfl, by decide +kernel, rfl, by decide +kernel, by decide +kernel⟩
-- 2 is_count
abbrev N2 : List Str := ["value", "least"]
theorem sc2 : FnScope N2 ["value", "least"] (defScope (top 2)) := ⟨rfl, rfl, rfl, by decide +kernel, rfl, by decide +kernel, by decide +kernel⟩
-- 11 check_many
abbrev N11 : List Str := ["many"]
theorem sc11 : FnScope N11 ["many"] (defScope (top 11)) := ⟨rfl, rfl, rfl, by decide +kernel, rfl, by decide +kernel, by decide +kernel⟩
-- 12 are_counts_below
abbrev N12 : List Str := ["many", "value", "at"]
theorem sc12 : FnScope N12 ["many", "value"] (defScope (top 12)) := ⟨rfl, rfl, rfl, by decide +kernel, rfl, by decide +kernel, by decide +kernel⟩
theorem bk12_0 : BlkOk N12 (defScope (top 12)) (scp [(".0", .local), ("at", .local), ("is_count", .globalImplicit), ("many", .free)]) [("at", 2)] := ⟨rfl, by decide +kernel, by decide +kernel, by decide +kernel, by decide +kernel⟩
-- 13 exchanged
abbrev N13 : List Str := ["order", "at"]
theorem sc13 : FnScope N13 ["order", "at"] (defScope (top 13)) := ⟨rfl, rfl, rfl, by decide +kernel, rfl, by decide +kernel, by decide +kernel⟩
-- 14 is_row_there
abbrev N14 : List Str := ["many", "value", "order", "at"]
theorem sc14 : FnScope N14 ["many", "value"] (defScope (top 14)) := ⟨rfl, rfl, rfl, by decide +kernel, rfl, by decide +kernel, by decide +kernel⟩
-- 15 check_row
abbrev N15 : List Str := ["many", "row"]
theorem sc15 : FnScope N15 ["many", "row"] (defScope (top 15)) := ⟨rfl, rfl, rfl, by decide +kernel, rfl, by decide +kernel, by decide +kernel⟩
-- 16 moved_there
abbrev N16 : List Str := ["row", "found", "at", "one", "other"]
theorem sc16 : FnScope N16 ["row"] (defScope (top 16)) := ⟨rfl, rfl, rfl, by decide +kernel, rfl, by decide +kernel, by decide +kernel⟩
-- 17 moved_rows
abbrev N17 : List Str := ["many", "row", "is_three", "late"]
theorem sc17 : FnScope N17 ["many", "row"] (defScope (top 17)) := ⟨rfl, rfl, rfl, by decide +kernel, rfl, by decide +kernel, by decide +kernel⟩
theorem bn17_0 (sc : Scope) : BlkOk N17 sc (scp [(".0", .local), ("is_three", .local), ("late", .local)]) [("is_three", 2), ("late", 3)] := ⟨rfl, by decide +kernel, by decide +kernel, fun y hy e => absurd e ((by decide +kernel : ∀ y ∈ (scp [(".0", .local), ("is_three", .local), ("late", .local)]).names, y.2 ≠ .free) y hy), by decide +kernel⟩
theorem bk17_0 : BlkOk N17 (defScope (top 17)) (scp [(".0", .local), ("is_three", .local), ("late", .local)]) [("is_three", 2), ("late", 3)] := ⟨rfl, by decide +kernel, by decide +kernel, by decide +kernel, by decide +kernel⟩
-- 18 check_rows
abbrev N18 : List Str := ["many", "one", "other"]
theorem sc18 : FnScope N18 ["many", "one", "other"] (defScope (top 18)) := ⟨rfl, rfl, rfl, by decide +kernel, rfl, by decide +kernel, by decide +kernel⟩
-- 19 ways_from
abbrev N19 : List Str := ["row", "found", "line", "later", "here", "is_three", "late"]
theorem sc19 : FnScope N19 ["row"] (defScope (top 19)) := ⟨rfl, rfl, rfl, by decide +kernel, rfl, by decide +kernel, by decide +kernel⟩
-- 20 begun
abbrev N20 : List Str := ["found", "later", "line", "here", "late"]
theorem sc20 : FnScope N20 ["found", "later"] (defScope (top 20)) := ⟨rfl, rfl, rfl, by decide +kernel, rfl, by decide +kernel, by decide +kernel⟩
-- 21 row_of_moves
abbrev N21 : List Str := ["many", "one", "other", "ways", "found"]
theorem sc21 : FnScope N21 ["many", "one", "other"] (defScope (top 21)) := ⟨rfl, rfl, rfl, by decide +kernel, rfl, by decide +kernel, by decide +kernel⟩
-- 22 check_few
abbrev N22 : List Str := ["many"]
theorem sc22 : FnScope N22 ["many"] (defScope (top 22)) := ⟨rfl, rfl, rfl, by decide +kernel, rfl, by decide +kernel, by decide +kernel⟩
-- 23 is_row_of_moves
abbrev N23 : List Str := ["many", "one", "other", "value", "row", "is_three", "more", "late"]
theorem sc23 : FnScope N23 ["many", "one", "other", "value"] (defScope (top 23)) := ⟨rfl, rfl, rfl, by decide +kernel, rfl, by decide +kernel, by decide +kernel⟩
theorem bk23_0 : BlkOk N23 (defScope (top 23)) (scp [(".0", .local), ("row", .local), ("is_row_there", .globalImplicit), ("many", .free)]) [("row", 4)] := ⟨rfl, by decide +kernel, by decide +kernel, by decide +kernel, by decide +kernel⟩
theorem bn23_1 (sc : Scope) : BlkOk N23 sc (scp [(".0", .local), ("is_three", .local), ("more", .local)]) [("is_three", 5), ("more", 6)] := ⟨rfl, by decide +kernel, by decide +kernel, fun y hy e => absurd e ((by decide +kernel : ∀ y ∈ (scp [(".0", .local), ("is_three", .local), ("more", .local)]).names, y.2 ≠ .free) y hy), by decide +kernel⟩
theorem bk23_1 : BlkOk N23 (defScope (top 23)) (scp [(".0", .local), ("is_three", .local), ("more", .local)]) [("is_three", 5), ("more", 6)] := ⟨rfl, by decide +kernel, by decide +kernel, by decide +kernel, by decide +kernel⟩
theorem bn23_2 (sc : Scope) : BlkOk N23 sc (scp [(".0", .local), ("row", .local), ("late", .local), ("moved_there", .globalImplicit)]) [("row", 4), ("late", 7)] := ⟨rfl, by decide +kernel, by decide +kernel, fun y hy e => absurd e ((by decide +kernel : ∀ y ∈ (scp [(".0", .local), ("row", .local), ("late", .local), ("moved_there", .globalImplicit)]).names, y.2 ≠ .free) y hy), by decide +kernel⟩
theorem bk23_2 : BlkOk N23 (defScope (top 23)) (scp [(".0", .local), ("row", .local), ("late", .local), ("moved_there", .globalImplicit)]) [("row", 4), ("late", 7)] := ⟨rfl, by decide +kernel, by decide +kernel, by decide +kernel, by decide +kernel⟩
-- 25 _law_purse
abbrev N25 : List Str := ["script", "at", "seed"]
theorem sc25 : FnScope N25 ["script", "at"] (defScope (top 25)) := ⟨rfl, rfl, rfl, by decide +kernel, rfl, by decide +kernel, by decide +kernel⟩
-- 26 _law_mixed
abbrev N26 : List Str := ["seed", "spin", "at", "mixed"]
theorem sc26 : FnScope N26 ["seed", "spin", "at"] (defScope (top 26)) := ⟨rfl, rfl, rfl, by decide +kernel, rfl, by decide +kernel, by decide +kernel⟩
-- 27 _law_draw
abbrev N27 : List Str := ["purse", "many", "drawn", "found", "piece"]
theorem sc27 : FnScope N27 ["purse", "many"] (defScope (top 27)) := ⟨rfl, rfl, rfl, by decide +kernel, rfl, by decide +kernel, by decide +kernel⟩
-- 28 _law_purses
abbrev N28 : List Str := ["script", "few", "at"]
theorem sc28 : FnScope N28 ["script", "few"] (defScope (top 28)) := ⟨rfl, rfl, rfl, by decide +kernel, rfl, by decide +kernel, by decide +kernel⟩
theorem bk28_0 : BlkOk N28 (defScope (top 28)) (scp [(".0", .local), ("at", .local), ("_law_purse", .globalImplicit), ("script", .free)]) [("at", 2)] := ⟨rfl, by decide +kernel, by decide +kernel, by decide +kernel, by decide +kernel⟩
-- 29 _law_one_of
abbrev N29 : List Str := ["purse", "some"]
theorem sc29 : FnScope N29 ["purse", "some"] (defScope (top 29)) := ⟨rfl, rfl, rfl, by decide +kernel, rfl, by decide +kernel, by decide +kernel⟩
-- 30 _law_exact
abbrev N30 : List Str := ["mine", "theirs", "is_list", "is_like", "key", "a", "b"]
theorem sc30 : FnScope N30 ["mine", "theirs"] (defScope (top 30)) := ⟨rfl, rfl, rfl, by decide +kernel, rfl, by decide +kernel, by decide +kernel⟩
theorem bk30_0 : BlkOk N30 (defScope (top 30)) (scp [(".0", .local), ("key", .local), ("_law_exact", .globalImplicit), ("mine", .free), ("theirs", .free)]) [("key", 4)] := ⟨rfl, by decide +kernel, by decide +kernel, by decide +kernel, by decide +kernel⟩
theorem bn30_1 (sc : Scope) : BlkOk N30 sc (scp [(".0", .local), ("a", .local), ("b", .local), ("_law_exact", .globalImplicit)]) [("a", 5), ("b", 6)] := ⟨rfl, by decide +kernel, by decide +kernel, fun y hy e => absurd e ((by decide +kernel : ∀ y ∈ (scp [(".0", .local), ("a", .local), ("b", .local), ("_law_exact", .globalImplicit)]).names, y.2 ≠ .free) y hy), by decide +kernel⟩
theorem bk30_1 : BlkOk N30 (defScope (top 30)) (scp [(".0", .local), ("a", .local), ("b", .local), ("_law_exact", .globalImplicit)]) [("a", 5), ("b", 6)] := ⟨rfl, by decide +kernel, by decide +kernel, by decide +kernel, by decide +kernel⟩
-- 31 _law_exchanged
abbrev N31 : List Str := ["order", "at"]
theorem sc31 : FnScope N31 ["order", "at"] (defScope (top 31)) := ⟨rfl, rfl, rfl, by decide +kernel, rfl, by decide +kernel, by decide +kernel⟩
-- 32 _law_is_row
abbrev N32 : List Str := ["many", "value", "at", "order"]
theorem sc32 : FnScope N32 ["many", "value"] (defScope (top 32)) := ⟨rfl, rfl, rfl, by decide +kernel, rfl, by decide +kernel, by decide +kernel⟩
theorem bn32_0 (sc : Scope) : BlkOk N32 sc (scp [(".0", .local), ("at", .local), ("isinstance", .globalImplicit), ("int", .globalImplicit), ("bool", .globalImplicit)]) [("at", 2)] := ⟨rfl, by decide +kernel, by decide +kernel, fun y hy e => absurd e ((by decide +kernel : ∀ y ∈ (scp [(".0", .local), ("at", .local), ("isinstance", .globalImplicit), ("int", .globalImplicit), ("bool", .globalImplicit)]).names, y.2 ≠ .free) y hy), by decide +kernel⟩
theorem bk32_0 : BlkOk N32 (defScope (top 32)) (scp [(".0", .local), ("at", .local), ("isinstance", .globalImplicit), ("int", .globalImplicit), ("bool", .globalImplicit)]) [("at", 2)] := ⟨rfl, by decide +kernel, by decide +kernel, by decide +kernel, by decide +kernel⟩
-- 33 _law_row
abbrev N33 : List Str := ["purse", "many", "order", "found", "at", "spot"]
theorem sc33 : FnScope N33 ["purse", "many"] (defScope (top 33)) := ⟨rfl, rfl, rfl, by decide +kernel, rfl, by decide +kernel, by decide +kernel⟩
theorem bk33_0 : BlkOk N33 (defScope (top 33)) (scp [(".0", .local), ("spot", .local), ("order", .free)]) [("spot", 5)] := ⟨rfl, by decide +kernel, by decide +kernel, by decide +kernel, by decide +kernel⟩
-- 34 _law_moved
abbrev N34 : List Str := ["row", "found", "at"]
theorem sc34 : FnScope N34 ["row"] (defScope (top 34)) := ⟨rfl, rfl, rfl, by decide +kernel, rfl, by decide +kernel, by decide +kernel⟩
-- 35 _law_is_moves
abbrev N35 : List Str := ["many", "one", "other", "value", "row", "cost", "late", "at"]
theorem sc35 : FnScope N35 ["many", "one", "other", "value"] (defScope (top 35)) := ⟨rfl, rfl, rfl, by decide +kernel, rfl, by decide +kernel, by decide +kernel⟩
theorem bk35_0 : BlkOk N35 (defScope (top 35)) (scp [(".0", .local), ("row", .local), ("_law_is_row", .globalImplicit), ("many", .free)]) [("row", 4)] := ⟨rfl, by decide +kernel, by decide +kernel, by decide +kernel, by decide +kernel⟩
theorem bn35_1 (sc : Scope) : BlkOk N35 sc (scp [(".0", .local), ("cost", .local), ("late", .local)]) [("cost", 5), ("late", 6)] := ⟨rfl, by decide +kernel, by decide +kernel, fun y hy e => absurd e ((by decide +kernel : ∀ y ∈ (scp [(".0", .local), ("cost", .local), ("late", .local)]).names, y.2 ≠ .free) y hy), by decide +kernel⟩
theorem bk35_1 : BlkOk N35 (defScope (top 35)) (scp [(".0", .local), ("cost", .local), ("late", .local)]) [("cost", 5), ("late", 6)] := ⟨rfl, by decide +kernel, by decide +kernel, by decide +kernel, by decide +kernel⟩
theorem bk35_2 : BlkOk N35 (defScope (top 35)) (scp [(".0", .local), ("at", .local), ("_law_moved", .globalImplicit), ("value", .free)]) [("at", 7)] := ⟨rfl, by decide +kernel, by decide +kernel, by decide +kernel, by decide +kernel⟩
-- 36 _law_cost
abbrev N36 : List Str := ["value", "found", "at", "cost", "late"]
theorem sc36 : FnScope N36 ["value"] (defScope (top 36)) := ⟨rfl, rfl, rfl, by decide +kernel, rfl, by decide +kernel, by decide +kernel⟩
theorem bk36_0 : BlkOk N36 (defScope (top 36)) (scp [(".0", .local), ("cost", .local), ("late", .local), ("at", .free), ("value", .free)]) [("cost", 3), ("late", 4)] := ⟨rfl, by decide +kernel, by decide +kernel, by decide +kernel, by decide +kernel⟩
-- 37 _law_fewest
abbrev N37 : List Str := ["one", "other", "near", "costs", "row", "found", "further", "cost", "late"]
theorem sc37 : FnScope N37 ["one", "other"] (defScope (top 37)) := ⟨rfl, rfl, rfl, by decide +kernel, rfl, by decide +kernel, by decide +kernel⟩
theorem bn37_0 (sc : Scope) : BlkOk N37 sc (scp [(".0", .local), ("row", .local), ("tuple", .globalImplicit)]) [("row", 4)] := ⟨rfl, by decide +kernel, by decide +kernel, fun y hy e => absurd e ((by decide +kernel : ∀ y ∈ (scp [(".0", .local), ("row", .local), ("tuple", .globalImplicit)]).names, y.2 ≠ .free) y hy), by decide +kernel⟩
theorem bk37_0 : BlkOk N37 (defScope (top 37)) (scp [(".0", .local), ("row", .local), ("tuple", .globalImplicit)]) [("row", 4)] := ⟨rfl, by decide +kernel, by decide +kernel, by decide +kernel, by decide +kernel⟩
theorem bn37_1 (sc : Scope) : BlkOk N37 sc (scp [(".0", .local), ("cost", .local), ("late", .local)]) [("cost", 7), ("late", 8)] := ⟨rfl, by decide +kernel, by decide +kernel, fun y hy e => absurd e ((by decide +kernel : ∀ y ∈ (scp [(".0", .local), ("cost", .local), ("late", .local)]).names, y.2 ≠ .free) y hy), by decide +kernel⟩
theorem bk37_1 : BlkOk N37 (defScope (top 37)) (scp [(".0", .local), ("cost", .local), ("late", .local)]) [("cost", 7), ("late", 8)] := ⟨rfl, by decide +kernel, by decide +kernel, by decide +kernel, by decide +kernel⟩
-- 38 _law_around
abbrev N38 : List Str := ["rows", "known", "found", "line", "row", "cost", "late"]
theorem sc38 : FnScope N38 ["rows", "known"] (defScope (top 38)) := ⟨rfl, rfl, rfl, by decide +kernel, rfl, by decide +kernel, by decide +kernel⟩
theorem bn38_0 (sc : Scope) : BlkOk N38 sc (scp [(".0", .local), ("cost", .local), ("late", .local)]) [("cost", 5), ("late", 6)] := ⟨rfl, by decide +kernel, by decide +kernel, fun y hy e => absurd e ((by decide +kernel : ∀ y ∈ (scp [(".0", .local), ("cost", .local), ("late", .local)]).names, y.2 ≠ .free) y hy), by decide +kernel⟩
theorem bk38_0 : BlkOk N38 (defScope (top 38)) (scp [(".0", .local), ("cost", .local), ("late", .local)]) [("cost", 5), ("late", 6)] := ⟨rfl, by decide +kernel, by decide +kernel, by decide +kernel, by decide +kernel⟩
theorem bn38_1 (sc : Scope) : BlkOk N38 sc (scp [(".0", .local), ("row", .local), ("list", .globalImplicit)]) [("row", 4)] := ⟨rfl, by decide +kernel, by decide +kernel, fun y hy e => absurd e ((by decide +kernel : ∀ y ∈ (scp [(".0", .local), ("row", .local), ("list", .globalImplicit)]).names, y.2 ≠ .free) y hy), by decide +kernel⟩
theorem bk38_1 : BlkOk N38 (defScope (top 38)) (scp [(".0", .local), ("row", .local), ("list", .globalImplicit)]) [("row", 4)] := ⟨rfl, by decide +kernel, by decide +kernel, by decide +kernel, by decide +kernel⟩
-- 39 _law_walked
abbrev N39 : List Str := ["purse", "row", "many", "found", "turn", "some", "cost", "late"]
theorem sc39 : FnScope N39 ["purse", "row", "many"] (defScope (top 39)) := ⟨rfl, rfl, rfl, by decide +kernel, rfl, by decide +kernel, by decide +kernel⟩
theorem bn39_0 (sc : Scope) : BlkOk N39 sc (scp [(".0", .local), ("cost", .local), ("late", .local)]) [("cost", 6), ("late", 7)] := ⟨rfl, by decide +kernel, by decide +kernel, fun y hy e => absurd e ((by decide +kernel : ∀ y ∈ (scp [(".0", .local), ("cost", .local), ("late", .local)]).names, y.2 ≠ .free) y hy), by decide +kernel⟩
theorem bk39_0 : BlkOk N39 (defScope (top 39)) (scp [(".0", .local), ("cost", .local), ("late", .local)]) [("cost", 6), ("late", 7)] := ⟨rfl, by decide +kernel, by decide +kernel, by decide +kernel, by decide +kernel⟩
-- 40 _law_rows_right
abbrev N40 : List Str := ["purse", "many", "one", "other", "noted", "told", "value", "walk", "at", "values", "odd", "first", "last", "due", "shown"]
theorem sc40 : FnScope N40 ["purse", "many", "one", "other"] (defScope (top 40)) := ⟨rfl, rfl, rfl, by decide +kernel, rfl, by decide +kernel, by decide +kernel⟩
theorem bk40_0 : BlkOk N40 (defScope (top 40)) (scp [(".0", .local), ("value", .local), ("_law_is_moves", .globalImplicit), ("_law_cost", .globalImplicit), ("_law_fewest", .globalImplicit), ("many", .free), ("one", .free), ("other", .free)]) [("value", 6)] := ⟨rfl, by decide +kernel, by decide +kernel, by decide +kernel, by decide +kernel⟩
-- 41 _law_right
abbrev N41 : List Str := ["purse", "many", "row", "due", "noted", "told", "few", "one", "other", "five", "cost", "late"]
theorem sc41 : FnScope N41 ["purse"] (defScope (top 41)) := ⟨rfl, rfl, rfl, by decide +kernel, rfl, by decide +kernel, by decide +kernel⟩
theorem bn41_0 (sc : Scope) : BlkOk N41 sc (scp [(".0", .local), ("cost", .local), ("late", .local)]) [("cost", 10), ("late", 11)] := ⟨rfl, by decide +kernel, by decide +kernel, fun y hy e => absurd e ((by decide +kernel : ∀ y ∈ (scp [(".0", .local), ("cost", .local), ("late", .local)]).names, y.2 ≠ .free) y hy), by decide +kernel⟩
theorem bk41_0 : BlkOk N41 (defScope (top 41)) (scp [(".0", .local), ("cost", .local), ("late", .local)]) [("cost", 10), ("late", 11)] := ⟨rfl, by decide +kernel, by decide +kernel, by decide +kernel, by decide +kernel⟩
-- 42 law
abbrev N42 : List Str := ["script", "purse", "far", "told"]
theorem sc42 : FnScope N42 ["script"] (defScope (top 42)) := ⟨rfl, rfl, rfl, by decide +kernel, rfl, by decide +kernel, by decide +kernel⟩
end K75
set_option Elab.async false
set_option autoImplicit false
set_option linter.all false
set_option maxRecDepth 100000
set_option maxHeartbeats 2000000
/-! K1: the doors and rows of k75. -/
namespace K75
open PySem PySem.Spec PyProof.Rows L2 Bv

/-! ### plain words -/
def whole (d : PyData) : Bool := isA "int" d && !isA "bool" d
def count (d : PyData) (l : Int) : Bool := match d with
  | .int i => decide (max l 0 ≤ i)
  | _ => false
def exch (o : List Nat) (k : Nat) : List Nat := o.take k ++ [o.getD (k + 1) 0, o.getD k 0] ++ o.drop (k + 2)
def runs : List Nat → List Nat → Bool
  | _, [] => true
  | o, k :: w => decide (o.getD k 0 ≤ o.getD (k + 1) 0) && runs (exch o k) w
def below (n : Nat) (ns : List Nat) : Bool := (ns.length == n * (n - 1) / 2) && ns.all fun k => decide (k + 1 < n)
def isRow (n : Nat) (ns : List Nat) : Bool := below n ns && runs (List.range n) ns
/-- what is asked whether it is a row: a list of numbers, or None -/
def item : Option (List Nat) → PyData
  | none => .none
  | some ns => nrow ns
def isRowO (n : Nat) : Option (List Nat) → Bool
  | none => false
  | some ns => isRow n ns
section
variable {P : Program} {w : World} {K : PySem.W.Frag} {mg : Str → Option Value} {base : Heap} {k : Nat} {f : Addr} {fd : FuncData}
/-! ### is_whole -/
def S_is_whole : Sb := fun es Φ => ∃ d, es = [.dat d] ∧ Φ (.dat (.bool (whole d))) es
theorem ok_is_whole (F : Fun K "is_whole" "is_whole" (top 1) f fd) (m_isinstance : mg "isinstance" = none) (m_int : mg "int" = none) (m_bool : mg "bool" = none) : FnOk P w K mg base CX0 (k + 1) f fd ["value"] (toSp K S_is_whole) := by
  refine fn_ok [] F sc1 (fun es Φ ⟨d, e, _⟩ => by subst e; rfl) (fun es Φ ⟨d, e, _⟩ => by subst e; exact own_of rfl) (fun cdv A outer s H E hr es Φ ⟨d, e, hΦ⟩ => ?_)
  subst e
  exact sv_ret (BR.ev (bv_and (bv_isi (tn := "int") (by rfl) m_isinstance (by rfl) m_int (by decide +kernel) (bv_v 0 rfl) rfl (by decide +kernel)) (fun c1 => (bv_one (bv_not (bv_isi (tn := "bool") (by rfl) m_isinstance (by rfl) m_bool (by decide +kernel) (bv_v 0 rfl) rfl (by decide +kernel)))))) ⟨_, rfl, hΦ⟩)
/-! ### is_count -/
def S_is_count : Sb := fun es Φ => ∃ d l, es = [.dat d, .dat (.int l)] ∧ Φ (.dat (.bool (count d l))) es
theorem whole_int (i : Int) : whole (.int i) = true := by
  show ((kitB "int" "int").getD false && !(kitB "int" "bool").getD false) = true
  decide +kernel
theorem whole_not {d : PyData} (h : ∀ i, d ≠ .int i) : whole d = false := by
  have key : ∀ T, T ∈ ["NoneType", "bool", "str", "list", "tuple", "dict"] → ((kitB T "int").getD false && !(kitB T "bool").getD false) = false := by decide +kernel
  cases d with
  | int i => exact absurd rfl (h i)
  | none => exact key "NoneType" (by decide)
  | bool b => exact key "bool" (by decide)
  | str x => exact key "str" (by decide)
  | list x => exact key "list" (by decide)
  | tuple x => exact key "tuple" (by decide)
  | dict x => exact key "dict" (by decide)
theorem ok_is_count {params : Arguments} {dvs : List V} {kws : List (Str × V)} (F : FunD K "is_count" "is_count" params (defBody (top 2)) (defScope (top 2)) dvs kws f fd) (C_is_whole : Calls P w K mg base 1 "is_whole" S_is_whole) (m_max : mg "max" = none) : FnOk P w K mg base CX0 2 f fd ["value", "least"] (toSp K S_is_count) := by
  refine fnD_ok F sc2 (fun es Φ ⟨d, l, e, _⟩ => by subst e; rfl) (fun es Φ ⟨d, l, e, _⟩ => by subst e; exact own_of rfl) (fun cdv A outer s H E hr es Φ ⟨d, l, e, hΦ⟩ => ?_)
  subst e
  have fin : ∀ {b : Bool}, b = count d l → (∃ r', retOf [.dat d, .dat (.int l)] [.dat d, .dat (.int l)] (.dat (.bool b)) = some r' ∧ Φ r' [.dat d, .dat (.int l)]) := fun h => by subst h; exact ⟨_, rfl, hΦ⟩
  by_cases hd : ∃ i, d = .int i
  · obtain ⟨i, rfl⟩ := hd
    refine sv_ret (BR.ev (bv_and (br_own C_is_whole (hr.mono (by decide)) (by rfl) (ba_cons (bv_v 0 rfl) ba_nil) ⟨_, rfl, rfl⟩) (fun c1 => (bv_one (bv_ge (bv_v 0 rfl) (bv_max (by rfl) (by rfl) m_max (bv_v 1 rfl) bv_int))))) (fin ?_))
    rw [whole_int]
    show decide ((if (0 : Int) > l then 0 else l) ≤ i) = decide (max l 0 ≤ i)
    congr 1
    by_cases h : (0 : Int) > l
    · rw [if_pos h]; simp; omega
    · rw [if_neg h]; simp; omega
  · have e := whole_not (d := d) fun i z => hd ⟨i, z⟩
    refine sv_ret (BR.ev (bv_and (l := false) (br_own C_is_whole (hr.mono (by decide)) (by rfl) (ba_cons (bv_v 0 rfl) ba_nil) ⟨_, rfl, rfl⟩) (fun c => by rw [e] at c; cases c)) (fin ?_))
    rw [e]
    cases d with
    | int i => exact absurd ⟨i, rfl⟩ hd
    | _ => rfl
/-! ### check_many -/
def S_check_many : Sb := fun es Φ => ∃ n : Nat, es = [.dat (.int n)] ∧ 1 ≤ n ∧ Φ (.dat .none) es
theorem ok_check_many (F : Fun K "check_many" "check_many" (top 11) f fd) (C_is_count : Calls P w K mg base 2 "is_count" S_is_count) : FnOk P w K mg base CX0 3 f fd ["many"] (toSp K S_check_many) := by
  refine fn_ok [] F sc11 (fun es Φ ⟨d, e, _⟩ => by subst e; rfl) (fun es Φ ⟨d, e, _⟩ => by subst e; exact own_of rfl) (fun cdv A outer s H E hr es Φ ⟨n, e, hn, hΦ⟩ => ?_)
  subst e
  refine sv_when (bt_not (bt_val (br_own C_is_count (hr.mono (by decide)) (by rfl) (ba_cons (bv_v 0 rfl) (ba_cons bv_int ba_nil)) ⟨_, _, rfl, rfl⟩))) (fun c => ?_) (fun _ => sv_nil hΦ)
  have : count (.int (n : Int)) 1 = true := by
    unfold count
    simp
    omega
  rw [this] at c
  cases c
/-! ### are_counts_below -/
theorem isA_list (ds : List PyData) : isA "list" (.list ds) = true := by
  show (kitB "list" "list").getD false = true
  decide +kernel
theorem isA_none : isA "list" .none = false := by
  show (kitB "NoneType" "list").getD false = false
  decide +kernel
theorem cmul_small {i j : Int} (h1 : -(2 ^ 64) < i) (h2 : i < 2 ^ 64) (h3 : -(2 ^ 64) < j) (h4 : j < 2 ^ 64) : CMulX i j := by
  have a1 := PySem.intBits_le_64 h1 h2
  have a2 := PySem.intBits_le_64 h3 h4
  unfold CMulX
  omega
theorem all_bools {α : Type} (L : List α) (g : α → Bool) : (L.map g).all id = L.all g := by
  induction L with
  | nil => rfl
  | cons x L ih => rw [List.map_cons, List.all_cons, List.all_cons, ih]; rfl
def short (x : Option (List Nat)) : Prop := ∀ ns, x = some ns → ns.length ≤ 1000
def belowO (n : Nat) : Option (List Nat) → Bool
  | none => false
  | some ns => below n ns
def S_below : Sb := fun es Φ => ∃ (n : Nat) (x : Option (List Nat)), es = [.dat (.int n), .dat (item x)] ∧ 1 ≤ n ∧ n ≤ 1000 ∧ short x ∧ Φ (.dat (.bool (belowO n x))) es
theorem ok_below (F : Fun K "are_counts_below" "are_counts_below" (top 12) f fd) (CD_is_count : CallsD P w K mg base 2 "is_count" [0] S_is_count) (m_isinstance : mg "isinstance" = none) (m_list : mg "list" = none) (m_len : mg "len" = none) (m_all : mg "all" = none) :
    FnOk P w K mg base CX0 3 f fd ["many", "value"] (toSp K S_below) := by
  refine fn_ok [] F sc12 (fun es Φ ⟨n, x, e, _⟩ => by subst e; rfl) (fun es Φ ⟨n, x, e, _⟩ => by subst e; exact own_of rfl) (fun cdv A outer s H E hr es Φ ⟨n, x, e, hn, hn2, hx, hΦ⟩ => ?_)
  subst e
  cases x with
  | none =>
    refine sv_when (bw_t (bw_or (l := false) (bt_not (bt_val (bv_isi (tn := "list") (by rfl) m_isinstance (by rfl) m_list (by decide +kernel) (bv_v 1 rfl) rfl (by decide +kernel)))) (fun c => ?_))) (fun _ => ?_) (fun c => ?_)
    · rw [show isA "list" (item none) = false from isA_none] at c
      cases c
    · exact sv_ret (BR.ev bv_bl ⟨_, rfl, hΦ⟩)
    · rw [show isA "list" (item none) = false from isA_none] at c
      cases c
  | some ns =>
    have hns := hx ns rfl
    have h1 : CMulX (n : Int) ((n : Int) - 1) := cmul_small (by omega) (by omega) (by omega) (by omega)
    have h2 : CDivW ((n : Int) * ((n : Int) - 1)) 2 := ⟨by decide, by decide⟩
    have e1 : (!isA "list" (item (some ns))) = false := by rw [show isA "list" (item (some ns)) = true from isA_list _]; rfl
    have e2 : PyData.eqv (.int ((ns.map fun n => PyData.int (n : Nat)).length : Nat)) (.int ((n : Int) * ((n : Int) - 1) / 2)) = (ns.length == n * (n - 1) / 2) := by
      rw [List.length_map]
      show ((ns.length : Int) == _) = _
      have q : ((n : Int) * ((n : Int) - 1) / 2) = ((n * (n - 1) / 2 : Nat) : Int) := by
        rw [Int.natCast_ediv, Int.natCast_mul, Int.natCast_sub hn]
        rfl
      rw [q]
      by_cases z : ns.length = n * (n - 1) / 2
      · rw [z]; simp
      · have z' : ¬ ((ns.length : Int) = ((n * (n - 1) / 2 : Nat) : Int)) := fun q => z (Int.ofNat.inj q)
        simp only [beq_eq_false_iff_ne.mpr z, beq_eq_false_iff_ne.mpr z']
    refine sv_when (bw_t (bw_or (bt_not (bt_val (bv_isi (tn := "list") (by rfl) m_isinstance (by rfl) m_list (by decide +kernel) (bv_v 1 rfl) rfl (by decide +kernel)))) (fun c1 => (bw_or1 (bt_ne hr (bv_len (by rfl) m_len (bv_v 1 rfl) rfl) (bv_fdiv (bv_mulX (bv_v 0 rfl) (bv_sub (bv_v 0 rfl) bv_int) h1) bv_int h2) rfl rfl (by first | exact shaped_nrow _ | rfl | assumption) (by first | exact shaped_nrow _ | rfl | assumption)))))) (fun c => ?_) (fun c => ?_)
    · rw [e1, e2, Bool.false_or] at c
      have q : below n ns = false := by
        unfold below
        rw [show (ns.length == n * (n - 1) / 2) = false from by cases h : (ns.length == n * (n - 1) / 2) <;> simp_all]
        rfl
      exact sv_ret (BR.ev bv_bl ⟨_, rfl, by show Φ (.dat (.bool false)) _; have := hΦ; rw [show belowO n (some ns) = false from q] at this; exact this⟩)
    · rw [e1, e2, Bool.false_or] at c
      have q : below n ns = ns.all fun k => decide (k + 1 < n) := by
        unfold below
        rw [show (ns.length == n * (n - 1) / 2) = true from by cases h : (ns.length == n * (n - 1) / 2) <;> simp_all, Bool.true_and]
      refine sv_ret (BR.ev (bv_all (bs := ns.map fun k => decide (k + 1 < n)) (by rfl) (by rfl) m_all (br_lc1 (L := ns) (enc := fun n => .int (n : Nat)) (f := fun k => .bool (decide (k + 1 < n))) sc12.nd bk12_0 (pi_list pe_can) (gv_list (bv_v 1 rfl)) (fun Y hY => ?_) (by rw [sizeLine_eq]; omega) (fun m hm Y hY => ?_)) ?_) ⟨_, rfl, ?_⟩)
      · obtain ⟨_, _, _, _, _, rfl⟩ := hY
        exact pg_name (i := 2) sc12.nd rfl (.inl rfl)
      · obtain ⟨_, _, _, _, _, rfl⟩ := hY
        refine BR.is (bv_and (br_ownD CD_is_count (hr.mono (by decide)) (by rfl) (ba_cons (bv_v 2 rfl) ba_nil) ⟨_, _, rfl, rfl⟩) (fun c => bv_one (bv_lt (bv_v 2 rfl) (bv_sub (bv_v 0 rfl) bv_int)))) ?_
        show Res.dat (.bool (count (.int (m : Int)) 0 && decide ((m : Int) < (n : Int) - 1))) = .dat (.bool (decide (m + 1 < n)))
        have c1 : count (.int (m : Int)) 0 = true := by unfold count; simp
        rw [c1, Bool.true_and]
        congr 2
        apply decide_eq_decide.mpr
        omega
      · show some _ = some _
        rw [List.map_map]
        rfl
      · rw [all_bools]
        show Φ (.dat (.bool (ns.all fun k => decide (k + 1 < n)))) _
        rw [← q]
        exact hΦ
end
end K75
set_option Elab.async false
set_option autoImplicit false
set_option linter.all false
set_option maxRecDepth 100000
set_option maxHeartbeats 2000000
/-! K2: exchanges and moves. -/
namespace K75
open PySem PySem.Spec PyProof.Rows L2 Bv

/-! ### parts of lists -/
theorem cut_to {α : Type} (xs : List α) (k : Nat) {i : Int} (hi : i = (k : Int)) : cutL xs none (some i) = xs.take k := by
  subst hi
  unfold cutL
  rw [HT.sIx_nat, HT.sIx_none]
  simp only [List.drop_zero, Nat.sub_zero]
  by_cases h : k ≤ xs.length
  · rw [Nat.min_eq_left h]
  · rw [Nat.min_eq_right (by omega), List.take_of_length_le (Nat.le_refl _), List.take_of_length_le (by omega)]
theorem cut_from {α : Type} (xs : List α) (k : Nat) {i : Int} (hi : i = (k : Int)) : cutL xs (some i) none = xs.drop k := by
  subst hi
  unfold cutL
  rw [HT.sIx_nat, HT.sIx_none]
  by_cases h : k ≤ xs.length
  · rw [Nat.min_eq_left h, List.take_of_length_le (by rw [List.length_drop]; exact Nat.le_refl _)]
  · rw [Nat.min_eq_right (by omega)]
    simp
    omega
theorem at_n {o : List Nat} {i : Int} (j : Nat) (hi : i = (j : Int)) (h : j < o.length) : L2.atI (o.map fun n => PyData.int (n : Nat)) i = some (.int (o.getD j 0 : Nat)) := by
  subst hi
  refine atI_nat ?_
  rw [List.getElem?_map, List.getElem?_eq_getElem h, List.getD_eq_getElem?_getD, List.getElem?_eq_getElem h]
  rfl
abbrev nums (ns : List Nat) : List PyData := ns.map fun n => PyData.int (n : Nat)
theorem exch_len {o : List Nat} {k : Nat} (h : k + 1 < o.length) : (exch o k).length = o.length := by
  unfold exch
  simp
  omega
section
variable {P : Program} {w : World} {K : PySem.W.Frag} {mg : Str → Option Value} {base : Heap} {k : Nat} {f : Addr} {fd : FuncData}
/-! ### exchanged -/
def S_exchanged : Sb := fun es Φ => ∃ (o : List Nat) (k : Nat), es = [.dat (nrow o), .dat (.int k)] ∧ k + 1 < o.length ∧ o.length ≤ 1000 ∧ Φ (.new (nums (exch o k))) es
theorem ok_exchanged (F : Fun K "exchanged" "exchanged" (top 13) f fd) : FnOk P w K mg base CX0 1 f fd ["order", "at"] (toSp K S_exchanged) := by
  refine fn_ok [] F sc13 (fun es Φ ⟨o, k, e, _⟩ => by subst e; rfl) (fun es Φ ⟨o, k, e, _⟩ => by subst e; exact own_of rfl) (fun cdv A outer s H E hr es Φ ⟨o, k, e, hk, hl, hΦ⟩ => ?_)
  subst e
  have h1 : L2.atI (nums o) ((k : Int) + 1) = some (.int (o.getD (k + 1) 0 : Nat)) := at_n (k + 1) rfl hk
  have h2 : L2.atI (nums o) (k : Int) = some (.int (o.getD k 0 : Nat)) := at_n k rfl (by omega)
  have hz : ∀ ds : List PyData, ds = nums (exch o k) → ds.length ≤ sizeLine := fun ds e => by
    subst e
    rw [List.length_map, exch_len hk, sizeLine_eq]
    omega
  have e1 : cutL (nums o) none (some (k : Int)) ++ (PyData.int (o.getD (k + 1) 0 : Nat) :: PyData.int (o.getD k 0 : Nat) :: (cutL (nums o) (some ((k : Int) + 2)) none ++ [])) = nums (exch o k) := by
    rw [cut_to _ k rfl, cut_from _ (k + 2) (i := (k : Int) + 2) (by omega)]
    unfold exch nums
    simp [List.map_append, List.map_take, List.map_drop]
  have hz1 := hz _ e1
  exact sv_ret (BR.ev (BR.is (br_lst (ba_star (br_slice (bv_v 0 rfl) rfl bo_none (bo_some (bv_v 1 rfl))) rfl (ba_cons (bv_ix (bv_v 0 rfl) (bv_add (bv_v 1 rfl) bv_int) rfl h1) (ba_cons (bv_ix (bv_v 0 rfl) (bv_v 1 rfl) rfl h2) (ba_star (br_slice (bv_v 0 rfl) rfl (bo_some (bv_add (bv_v 1 rfl) bv_int)) bo_none) rfl ba_nil)))) hz1) (by rw [e1])) ⟨_, rfl, hΦ⟩)
/-! ### is_row_there -/
def S_is_row : Sb := fun es Φ => ∃ (n : Nat) (x : Option (List Nat)), es = [.dat (.int n), .dat (item x)] ∧ 1 ≤ n ∧ n ≤ 1000 ∧ short x ∧ Φ (.dat (.bool (isRowO n x))) es
theorem ok_is_row (F : Fun K "is_row_there" "is_row_there" (top 14) f fd) (C_are_counts_below : Calls P w K mg base 3 "are_counts_below" S_below) (C_exchanged : Calls P w K mg base 1 "exchanged" S_exchanged) (m_list : mg "list" = none) (m_range : mg "range" = none) :
    FnOk P w K mg base CX0 4 f fd ["many", "value"] (toSp K S_is_row) := by
  refine fn_ok [] F sc14 (fun es Φ ⟨n, x, e, _⟩ => by subst e; rfl) (fun es Φ ⟨n, x, e, _⟩ => by subst e; exact own_of rfl) (fun cdv A outer s H E hr es Φ ⟨n, x, e, hn, hn2, hx, hΦ⟩ => ?_)
  subst e
  have C1 : S_below ([PyData.int (n : Nat), item x].map .dat) fun r' _ => r' = .dat (.bool (belowO n x)) := ⟨n, x, rfl, hn, hn2, hx, rfl⟩
  refine sv_when (bt_not (bt_val (br_own C_are_counts_below (hr.mono (by decide)) (by rfl) (ba_cons (bv_v 0 rfl) (ba_cons (bv_v 1 rfl) ba_nil)) C1))) (fun c => ?_) (fun c => ?_)
  · refine sv_ret (BR.ev bv_bl ⟨_, rfl, ?_⟩)
    have e : isRowO n x = false := by
      cases x with
      | none => rfl
      | some ns =>
        have c' : below n ns = false := by
          have : (!below n ns) = true := c
          cases h : below n ns <;> simp_all
        show (below n ns && _) = false
        rw [c']; rfl
    rw [e] at hΦ
    exact hΦ
  · cases x with
    | none => cases c
    | some ns =>
      have c' : below n ns = true := by
        have : (!below n ns) = false := c
        cases h : below n ns <;> simp_all
      have hns := hx ns rfl
      have hb : ∀ k ∈ ns, k + 1 < n := fun k hk => by
        have h := List.all_eq_true.mp (Bool.and_eq_true_iff.mp c').2 k hk
        exact of_decide_eq_true h
      have h1 : RgOk 0 (n : Int) := RgOk.of_le (by omega) (by omega) (by omega) (by omega)
      refine sv_asg (i := 2) sc14.nd rfl (.inl rfl) List.not_mem_nil (br_give (br_listRg1 (by rfl) (by rfl) m_list (by rfl) m_range (bv_v 0 rfl) h1)) ?_
      refine sv_for (L := ns) (enc := fun n => .int (n : Nat)) (is := [3]) (sp := fun n => [.int (n : Nat)]) PassesOwn.never rfl (pi_list pe_can) (gv_list (bv_v 1 rfl)) (fun _ _ => List.not_mem_nil) (fun m _ => bg_name (pg_name sc14.nd rfl (.inl rfl)))
        (fun pre Γ1 => ∃ (o : List Nat) (t : Ent), Γ1 = [.dat (.int n), .dat (nrow ns), .dat (nrow o), t] ∧ o.length = n ∧ ∀ post, ns = pre ++ post → runs (List.range n) ns = runs o post) ?_ ?_ ?_
      · exact ⟨List.range n, .no, rfl, List.length_range, fun post e => by rw [e]; rfl⟩
      · rintro pre m post Γ1 e ⟨o, t, rfl, ho, hrun⟩
        have hm : m + 1 < n := hb m (by rw [e]; exact List.mem_append_right _ List.mem_cons_self)
        have g1 : L2.atI (nums o) (m : Int) = some (.int (o.getD m 0 : Nat)) := at_n m rfl (by omega)
        have g2 : L2.atI (nums o) ((m : Int) + 1) = some (.int (o.getD (m + 1) 0 : Nat)) := at_n (m + 1) rfl (by omega)
        have hrun' := hrun (m :: post) e
        have step : runs o (m :: post) = (decide (o.getD m 0 ≤ o.getD (m + 1) 0) && runs (exch o m) post) := rfl
        refine sv_when (bt_gt (bv_ix (bv_v 2 rfl) (bv_v 3 rfl) rfl g1) (bv_ix (bv_v 2 rfl) (bv_add (bv_v 3 rfl) bv_int) rfl g2)) (fun c => ?_) (fun c => ?_)
        · refine sv_ret (BR.ev bv_bl ⟨_, rfl, ?_⟩)
          have c' : ¬ o.getD m 0 ≤ o.getD (m + 1) 0 := by have := of_decide_eq_true c; omega
          have e2 : isRowO n (some ns) = false := by
            show (below n ns && runs (List.range n) ns) = false
            rw [hrun', step, decide_eq_false c', Bool.false_and, Bool.and_false]
          rw [e2] at hΦ
          exact hΦ
        · have c' : o.getD m 0 ≤ o.getD (m + 1) 0 := by have := of_decide_eq_false c; omega
          have C2 : S_exchanged ([nrow o, PyData.int (m : Nat)].map .dat) fun r' _ => r' = .new (nums (exch o m)) := ⟨o, m, rfl, by omega, by omega, rfl⟩
          refine sv_asg (i := 2) sc14.nd rfl (.inl rfl) List.not_mem_nil (br_give (br_own C_exchanged (hr.mono (by decide)) (by rfl) (ba_cons (bv_v 2 rfl) (ba_cons (bv_v 3 rfl) ba_nil)) C2)) (sv_nil ?_)
          refine ⟨exch o m, _, rfl, by rw [exch_len (by omega), ho], fun post' e' => ?_⟩
          have ep : post' = post := by
            rw [e] at e'
            have : pre ++ m :: post = pre ++ (m :: post') := by rw [e', List.append_assoc]; rfl
            have := List.append_cancel_left this
            exact (List.cons.inj this).2.symm
          rw [ep, hrun', step, decide_eq_true c', Bool.true_and]
      · rintro Γ1 ⟨o, t, rfl, ho, hrun⟩
        refine sv_ret (BR.ev bv_bl ⟨_, rfl, ?_⟩)
        have e2 : isRowO n (some ns) = true := by
          show (below n ns && runs (List.range n) ns) = true
          rw [hrun [] (by rw [List.append_nil]), c']
          rfl
        rw [e2] at hΦ
        exact hΦ
end
end K75
set_option Elab.async false
set_option autoImplicit false
set_option linter.all false
set_option maxRecDepth 100000
set_option maxHeartbeats 2000000
/-! K3: checks; the moves that lie there. -/
namespace K75
open PySem PySem.Spec PyProof.Rows L2 Bv

def farB (a b : Nat) : Bool := decide (a + 1 < b ∨ b + 1 < a)
def nearB (a b : Nat) : Bool := decide (a + 1 = b ∨ b + 1 = a)
def swapAt (r : List Nat) (k : Nat) : List (List Nat) := if farB (r.getD k 0) (r.getD (k + 1) 0) = true then [exch r k] else []
def braid (r : List Nat) (k : Nat) : List Nat := r.take k ++ [r.getD (k + 1) 0, r.getD k 0, r.getD (k + 1) 0] ++ r.drop (k + 3)
def threeAt (r : List Nat) (k : Nat) : List (List Nat) := if (decide (r.getD (k + 2) 0 = r.getD k 0) && nearB (r.getD k 0) (r.getD (k + 1) 0)) = true then [braid r k] else []
def mt1 (r : List Nat) (n : Nat) : List (Bool × List Nat) := (List.range n).flatMap fun k => (swapAt r k).map fun l => (false, l)
def mt2 (r : List Nat) (n : Nat) : List (Bool × List Nat) := (List.range n).flatMap fun k => (threeAt r k).map fun l => (true, l)
/-- the moves, as moved_there lists them -/
def mt (r : List Nat) : List (Bool × List Nat) := mt1 r (r.length - 1) ++ mt2 r (r.length - 2)
def encM (q : Bool × List Nat) : PyData := .tuple [.bool q.1, nrow q.2]
theorem mt1_succ (r : List Nat) (n : Nat) : mt1 r (n + 1) = mt1 r n ++ (swapAt r n).map fun l => (false, l) := by
  unfold mt1
  rw [List.range_succ, List.flatMap_append]
  simp
theorem mt2_succ (r : List Nat) (n : Nat) : mt2 r (n + 1) = mt2 r n ++ (threeAt r n).map fun l => (true, l) := by
  unfold mt2
  rw [List.range_succ, List.flatMap_append]
  simp
theorem mt1_len (r : List Nat) (n : Nat) : (mt1 r n).length ≤ n := by
  induction n with
  | zero => simp [mt1]
  | succ n ih =>
    rw [mt1_succ, List.length_append, List.length_map]
    have : (swapAt r n).length ≤ 1 := by unfold swapAt; split <;> simp
    omega
theorem mt2_len (r : List Nat) (n : Nat) : (mt2 r n).length ≤ n := by
  induction n with
  | zero => simp [mt2]
  | succ n ih =>
    rw [mt2_succ, List.length_append, List.length_map]
    have : (threeAt r n).length ≤ 1 := by unfold threeAt; split <;> simp
    omega
theorem mt_len (r : List Nat) : (mt r).length ≤ 2 * r.length := by
  unfold mt
  have h1 := mt1_len r (r.length - 1)
  have h2 := mt2_len r (r.length - 2)
  rw [List.length_append]
  omega
theorem far_abs (a b : Nat) : decide ((1 : Int) < (if (a : Int) - (b : Int) < 0 then -((a : Int) - (b : Int)) else (a : Int) - (b : Int))) = farB a b := by
  unfold farB
  apply decide_eq_decide.mpr
  split <;> omega
theorem near_abs (a b : Nat) : PyData.eqv (.int (if (a : Int) - (b : Int) < 0 then -((a : Int) - (b : Int)) else (a : Int) - (b : Int))) (.int 1) = nearB a b := by
  show ((if (a : Int) - (b : Int) < 0 then -((a : Int) - (b : Int)) else (a : Int) - (b : Int)) == (1 : Int)) = _
  unfold nearB
  rw [show ∀ x y : Int, (x == y) = decide (x = y) from fun x y => rfl]
  apply decide_eq_decide.mpr
  split <;> omega
theorem eqv_nn (a b : Nat) : PyData.eqv (.int (a : Int)) (.int (b : Int)) = decide (a = b) := by
  show ((a : Int) == (b : Int)) = _
  rw [show ∀ x y : Int, (x == y) = decide (x = y) from fun x y => rfl]
  apply decide_eq_decide.mpr
  omega
theorem braid_len {r : List Nat} {k : Nat} (h : k + 2 < r.length) : (braid r k).length = r.length := by
  unfold braid
  simp
  omega
section
variable {P : Program} {w : World} {K : PySem.W.Frag} {mg : Str → Option Value} {base : Heap} {k : Nat} {f : Addr} {fd : FuncData}
/-! ### checks -/
def S_check_row : Sb := fun es Φ => ∃ (n : Nat) (ns : List Nat), es = [.dat (.int n), .dat (nrow ns)] ∧ 1 ≤ n ∧ n ≤ 1000 ∧ ns.length ≤ 1000 ∧ isRow n ns = true ∧ Φ (.dat .none) es
theorem ok_check_row (F : Fun K "check_row" "check_row" (top 15) f fd) (C_check_many : Calls P w K mg base 3 "check_many" S_check_many) (C_is_row_there : Calls P w K mg base 4 "is_row_there" S_is_row) : FnOk P w K mg base CX0 5 f fd ["many", "row"] (toSp K S_check_row) := by
  refine fn_ok [] F sc15 (fun es Φ ⟨n, x, e, _⟩ => by subst e; rfl) (fun es Φ ⟨n, x, e, _⟩ => by subst e; exact own_of rfl) (fun cdv A outer s H E hr es Φ ⟨n, ns, e, hn, hn2, hl, hrow, hΦ⟩ => ?_)
  subst e
  have C1 : S_check_many ([PyData.int (n : Nat)].map .dat) fun r' _ => r' = .dat .none := ⟨n, rfl, hn, rfl⟩
  have C2 : S_is_row ([PyData.int (n : Nat), nrow ns].map .dat) fun r' _ => r' = .dat (.bool (isRow n ns)) := ⟨n, some ns, rfl, hn, hn2, fun ms e => by cases e; exact hl, rfl⟩
  refine sv_expr (BR.ev (br_own C_check_many (hr.mono (by decide)) (by rfl) (ba_cons (bv_v 0 rfl) ba_nil) C1) ?_)
  refine sv_when (bt_not (bt_val (br_own C_is_row_there (hr.mono (by decide)) (by rfl) (ba_cons (bv_v 0 rfl) (ba_cons (bv_v 1 rfl) ba_nil)) C2))) (fun c => ?_) (fun _ => sv_nil hΦ)
  rw [hrow] at c
  cases c
def S_check_rows : Sb := fun es Φ => ∃ (n : Nat) (ns ms : List Nat), es = [.dat (.int n), .dat (nrow ns), .dat (nrow ms)] ∧ 1 ≤ n ∧ n ≤ 1000 ∧ ns.length ≤ 1000 ∧ ms.length ≤ 1000 ∧ isRow n ns = true ∧ isRow n ms = true ∧ Φ (.dat .none) es
theorem ok_check_rows (F : Fun K "check_rows" "check_rows" (top 18) f fd) (C_check_row : Calls P w K mg base 5 "check_row" S_check_row) (C_is_row_there : Calls P w K mg base 4 "is_row_there" S_is_row) : FnOk P w K mg base CX0 6 f fd ["many", "one", "other"] (toSp K S_check_rows) := by
  refine fn_ok [] F sc18 (fun es Φ ⟨n, x, y, e, _⟩ => by subst e; rfl) (fun es Φ ⟨n, x, y, e, _⟩ => by subst e; exact own_of rfl) (fun cdv A outer s H E hr es Φ ⟨n, ns, ms, e, hn, hn2, hl, hl2, hrow, hrow2, hΦ⟩ => ?_)
  subst e
  have C1 : S_check_row ([PyData.int (n : Nat), nrow ns].map .dat) fun r' _ => r' = .dat .none := ⟨n, ns, rfl, hn, hn2, hl, hrow, rfl⟩
  have C2 : S_is_row ([PyData.int (n : Nat), nrow ms].map .dat) fun r' _ => r' = .dat (.bool (isRow n ms)) := ⟨n, some ms, rfl, hn, hn2, fun ls e => by cases e; exact hl2, rfl⟩
  refine sv_expr (BR.ev (br_own C_check_row (hr.mono (by decide)) (by rfl) (ba_cons (bv_v 0 rfl) (ba_cons (bv_v 1 rfl) ba_nil)) C1) ?_)
  refine sv_when (bt_not (bt_val (br_own C_is_row_there (hr.mono (by decide)) (by rfl) (ba_cons (bv_v 0 rfl) (ba_cons (bv_v 2 rfl) ba_nil)) C2))) (fun c => ?_) (fun _ => sv_nil hΦ)
  rw [hrow2] at c
  cases c
def S_check_few : Sb := fun es Φ => ∃ (n : Nat), es = [.dat (.int n)] ∧ 1 ≤ n ∧ n ≤ 5 ∧ Φ (.dat .none) es
theorem ok_check_few {t : Tok} (F : Fun K "check_few" "check_few" (top 22) f fd) (C_is_count : Calls P w K mg base 2 "is_count" S_is_count) (m_MOST : mg "MOST" = some (.int 5 t)) : FnOk P w K mg base CX0 3 f fd ["many"] (toSp K S_check_few) := by
  refine fn_ok [] F sc22 (fun es Φ ⟨n, e, _⟩ => by subst e; rfl) (fun es Φ ⟨n, e, _⟩ => by subst e; exact own_of rfl) (fun cdv A outer s H E hr es Φ ⟨n, e, hn, hn2, hΦ⟩ => ?_)
  subst e
  have hc : count (.int (n : Int)) 1 = true := by
    unfold count
    simp
    omega
  refine sv_when (bw_t (bw_or (bt_not (bt_val (br_own C_is_count (hr.mono (by decide)) (by rfl) (ba_cons (bv_v 0 rfl) (ba_cons bv_int ba_nil)) ⟨_, _, rfl, rfl⟩))) (fun _ => bw_or1 (bt_gt (bv_v 0 rfl) (bv_glob (d := .int 5) (v := .int 5) (by rfl) m_MOST ⟨t, rfl⟩ (fun B => .int 5)))))) (fun c => ?_) (fun _ => sv_nil hΦ)
  rw [hc] at c
  have : (false || decide ((5 : Int) < (n : Int))) = true := c
  simp at this
  omega
/-! ### moved_there -/
def S_moved : Sb := fun es Φ => ∃ (r : List Nat), es = [.dat (nrow r)] ∧ r.length ≤ 1000 ∧ Φ (.new ((mt r).map encM)) es
theorem ok_moved (F : Fun K "moved_there" "moved_there" (top 16) f fd) (m_range : mg "range" = none) (m_len : mg "len" = none) (m_abs : mg "abs" = none) : FnOk P w K mg base CX0 1 f fd ["row"] (toSp K S_moved) := by
  refine fn_ok [] F sc16 (fun es Φ ⟨r, e, _⟩ => by subst e; rfl) (fun es Φ ⟨r, e, _⟩ => by subst e; exact own_of rfl) (fun cdv A outer s H E hr es Φ ⟨r, e, hl, hΦ⟩ => ?_)
  subst e
  have hlen : (nums r).length = r.length := List.length_map ..
  refine sv_asg (i := 1) sc16.nd rfl (.inl rfl) List.not_mem_nil (br_lst ba_nil (by first | exact Nat.le_of_ble_eq_true rfl | decide | assumption | (simp [sizeLine_eq]; omega))) ?_
  -- the swaps
  refine sv_forR (i := 2) (n := r.length - 1) (fun m Γ1 => ∃ t, Γ1 = [.dat (nrow r), .own ((mt1 r m).map encM), t, .no, .no]) sc16.nd (pg_name sc16.nd rfl (.inl rfl)) List.not_mem_nil PassesOwn.never m_range (bv_sub (bv_len (by rfl) m_len (bv_v 0 rfl) rfl) bv_int) (by rw [hlen]; omega) (by rw [hlen]; omega) ⟨_, rfl⟩ ?_ ?_
  · rintro m Γ1 hm ⟨t, rfl⟩
    have g1 : L2.atI (nums r) (m : Int) = some (.int (r.getD m 0 : Nat)) := at_n m rfl (by omega)
    have g2 : L2.atI (nums r) ((m : Int) + 1) = some (.int (r.getD (m + 1) 0 : Nat)) := at_n (m + 1) rfl (by omega)
    refine sv_when (bt_gt (bv_abs (by rfl) m_abs (bv_sub (bv_ix (bv_v 0 rfl) (bv_v 2 rfl) rfl g1) (bv_ix (bv_v 0 rfl) (bv_add (bv_v 2 rfl) bv_int) rfl g2))) bv_int) (fun c => ?_) (fun c => ?_)
    · have c' : farB (r.getD m 0) (r.getD (m + 1) 0) = true := by rw [← far_abs]; exact c
      have e1 : cutL (nums r) none (some (m : Int)) ++ (PyData.int (r.getD (m + 1) 0 : Nat) :: PyData.int (r.getD m 0 : Nat) :: (cutL (nums r) (some ((m : Int) + 2)) none ++ [])) = nums (exch r m) := by
        rw [cut_to _ m rfl, cut_from _ (m + 2) (i := (m : Int) + 2) (by omega)]
        unfold exch nums
        simp [List.map_append, List.map_take, List.map_drop]
      have hz1 : (cutL (nums r) none (some (m : Int)) ++ (PyData.int (r.getD (m + 1) 0 : Nat) :: PyData.int (r.getD m 0 : Nat) :: (cutL (nums r) (some ((m : Int) + 2)) none ++ []))).length ≤ sizeLine := by
        rw [e1, List.length_map, exch_len (by omega), sizeLine_eq]
        omega
      have hzf : ((mt1 r m).map encM).length < sizeLine := by
        have := mt1_len r m
        rw [List.length_map, sizeLine_eq]
        omega
      refine sv_expr (ev_append (i := 1) rfl (.inl rfl) rfl (BR.ev (bv_tup (ba_cons bv_bl (ba_cons (br_give (br_lst (ba_star (br_slice (bv_v 0 rfl) rfl bo_none (bo_some (bv_v 2 rfl))) rfl (ba_cons (bv_ix (bv_v 0 rfl) (bv_add (bv_v 2 rfl) bv_int) rfl g2) (ba_cons (bv_ix (bv_v 0 rfl) (bv_v 2 rfl) rfl g1) (ba_star (br_slice (bv_v 0 rfl) rfl (bo_some (bv_add (bv_v 2 rfl) bv_int)) bo_none) rfl ba_nil)))) hz1)) ba_nil)) (Nat.le_of_ble_eq_true rfl)) ⟨_, _, rfl, rfl, hzf, sv_nil (sv_nil ⟨.dat (.int (m : Nat)), ?_⟩)⟩))
      rw [e1, mt1_succ]
      have : swapAt r m = [exch r m] := if_pos c'
      rw [this, List.map_append]
      rfl
    · have c' : ¬ farB (r.getD m 0) (r.getD (m + 1) 0) = true := by rw [← far_abs, show _ = false from c]; exact Bool.false_ne_true
      have : swapAt r m = [] := if_neg c'
      exact sv_nil ⟨_, by rw [mt1_succ, this, List.map_nil, List.append_nil]; rfl⟩
  · rintro Γ1 ⟨t, rfl⟩
    refine sv_forR (i := 2) (n := r.length - 2) (fun m Γ1 => ∃ t t3 t4, Γ1 = [.dat (nrow r), .own ((mt1 r (r.length - 1) ++ mt2 r m).map encM), t, t3, t4]) sc16.nd (pg_name sc16.nd rfl (.inl rfl)) List.not_mem_nil PassesOwn.never m_range (bv_sub (bv_len (by rfl) m_len (bv_v 0 rfl) rfl) bv_int) (by rw [hlen]; omega) (by rw [hlen]; omega) ⟨_, _, _, by rw [show mt2 r 0 = [] from rfl, List.append_nil]⟩ ?_ ?_
    · rintro m Γ1 hm ⟨t, t3, t4, rfl⟩
      have g1 : L2.atI (nums r) (m : Int) = some (.int (r.getD m 0 : Nat)) := at_n m rfl (by omega)
      have g2 : L2.atI (nums r) ((m : Int) + 1) = some (.int (r.getD (m + 1) 0 : Nat)) := at_n (m + 1) rfl (by omega)
      have g3 : L2.atI (nums r) ((m : Int) + 2) = some (.int (r.getD (m + 2) 0 : Nat)) := at_n (m + 2) rfl (by omega)
      refine sv_par (i := 3) (j := 4) rfl sc16.nd rfl rfl (by decide) rfl rfl ⟨List.not_mem_nil, List.not_mem_nil⟩ (BA.eva (ba_cons (bv_ix (bv_v 0 rfl) (bv_v 2 rfl) rfl g1) (ba_cons (bv_ix (bv_v 0 rfl) (bv_add (bv_v 2 rfl) bv_int) rfl g2) ba_nil)) ⟨_, _, rfl, ⟨rfl, rfl⟩, ?_⟩)
      have eb : (PyData.eqv (.int (r.getD (m + 2) 0 : Nat)) (.int (r.getD m 0 : Nat)) && PyData.eqv (.int (if ((r.getD m 0 : Nat) : Int) - ((r.getD (m + 1) 0 : Nat) : Int) < 0 then -(((r.getD m 0 : Nat) : Int) - ((r.getD (m + 1) 0 : Nat) : Int)) else ((r.getD m 0 : Nat) : Int) - ((r.getD (m + 1) 0 : Nat) : Int))) (.int 1)) = (decide (r.getD (m + 2) 0 = r.getD m 0) && nearB (r.getD m 0) (r.getD (m + 1) 0)) := by
        rw [eqv_nn, near_abs]
      refine sv_when (bw_t (bw_and (bt_eq hr (bv_ix (bv_v 0 rfl) (bv_add (bv_v 2 rfl) bv_int) rfl g3) (bv_v 3 rfl) rfl rfl (by first | exact shaped_nrow _ | rfl | assumption) (by first | exact shaped_nrow _ | rfl | assumption)) (fun c1 => (bw_and1 (bt_eq hr (bv_abs (by rfl) m_abs (bv_sub (bv_v 3 rfl) (bv_v 4 rfl))) bv_int rfl rfl (by first | exact shaped_nrow _ | rfl | assumption) (by first | exact shaped_nrow _ | rfl | assumption)))))) (fun c => ?_) (fun c => ?_)
      · rw [eb] at c
        have e1 : cutL (nums r) none (some (m : Int)) ++ (PyData.int (r.getD (m + 1) 0 : Nat) :: PyData.int (r.getD m 0 : Nat) :: PyData.int (r.getD (m + 1) 0 : Nat) :: (cutL (nums r) (some ((m : Int) + 3)) none ++ [])) = nums (braid r m) := by
          rw [cut_to _ m rfl, cut_from _ (m + 3) (i := (m : Int) + 3) (by omega)]
          unfold braid nums
          simp [List.map_append, List.map_take, List.map_drop]
        have hz1 : (cutL (nums r) none (some (m : Int)) ++ (PyData.int (r.getD (m + 1) 0 : Nat) :: PyData.int (r.getD m 0 : Nat) :: PyData.int (r.getD (m + 1) 0 : Nat) :: (cutL (nums r) (some ((m : Int) + 3)) none ++ []))).length ≤ sizeLine := by
          rw [e1, List.length_map, braid_len (by omega), sizeLine_eq]
          omega
        have hzf : ((mt1 r (r.length - 1) ++ mt2 r m).map encM).length < sizeLine := by
          have h1 := mt1_len r (r.length - 1)
          have h2 := mt2_len r m
          rw [List.length_map, List.length_append, sizeLine_eq]
          omega
        refine sv_expr (ev_append (i := 1) rfl (.inl rfl) rfl (BR.ev (bv_tup (ba_cons bv_bl (ba_cons (br_give (br_lst (ba_star (br_slice (bv_v 0 rfl) rfl bo_none (bo_some (bv_v 2 rfl))) rfl (ba_cons (bv_v 4 rfl) (ba_cons (bv_v 3 rfl) (ba_cons (bv_v 4 rfl) (ba_star (br_slice (bv_v 0 rfl) rfl (bo_some (bv_add (bv_v 2 rfl) bv_int)) bo_none) rfl ba_nil))))) hz1)) ba_nil)) (Nat.le_of_ble_eq_true rfl)) ⟨_, _, rfl, rfl, hzf, sv_nil (sv_nil ⟨.dat (.int (m : Nat)), .dat (.int (r.getD m 0 : Nat)), .dat (.int (r.getD (m + 1) 0 : Nat)), ?_⟩)⟩))
        rw [e1, mt2_succ]
        have : threeAt r m = [braid r m] := if_pos c
        rw [this, ← List.append_assoc]
        simp only [List.map_append]
        rfl
      · rw [eb] at c
        have : threeAt r m = [] := if_neg (by rw [c]; exact Bool.false_ne_true)
        exact sv_nil ⟨_, _, _, by rw [mt2_succ, this, List.map_nil, List.append_nil]; rfl⟩
    · rintro Γ1 ⟨t, t3, t4, rfl⟩
      exact sv_ret (BR.ev (br_o 1 rfl) ⟨_, rfl, hΦ⟩)
end
end K75
set_option Elab.async false
set_option autoImplicit false
set_option linter.all false
set_option maxRecDepth 100000
set_option maxHeartbeats 2000000
/-! K4: the ways from a row. -/
namespace K75
open PySem PySem.Spec PyProof.Rows L2 Bv

/-! ### dicts whose keys are rows -/
def toI (l : List Nat) : List Int := l.map fun n : Nat => (n : Int)
def kR (l : List Nat) : List Key := ik (toI l)
theorem toI_inj {a b : List Nat} (h : toI a = toI b) : a = b := by
  unfold toI at h
  induction a generalizing b with
  | nil => cases b with
    | nil => rfl
    | cons y ys => simp at h
  | cons x xs ih =>
    cases b with
    | nil => simp at h
    | cons y ys =>
      rw [List.map_cons, List.map_cons] at h
      obtain ⟨h1, h2⟩ := List.cons.inj h
      rw [Int.ofNat.inj h1, ih h2]
theorem kR_inj {a b : List Nat} (h : kR a = kR b) : a = b := by
  refine toI_inj ?_
  unfold kR ik at h
  generalize toI a = x at h ⊢
  generalize toI b = y at h ⊢
  induction x generalizing y with
  | nil => cases y with
    | nil => rfl
    | cons z zs => simp at h
  | cons v vs ih =>
    cases y with
    | nil => simp at h
    | cons z zs =>
      rw [List.map_cons, List.map_cons] at h
      obtain ⟨h1, h2⟩ := List.cons.inj h
      rw [Sum.inl.inj h1, ih zs h2]
theorem ti_toI (l : List Nat) : PyData.tuple (nums l) = ti (toI l) := by
  unfold ti toI nums
  rw [List.map_map]
  rfl
abbrev Found := List (List Nat × Option (List Nat))
def encD (fo : Found) : List (List Key × PyData) := fo.map fun q => (kR q.1, item q.2)
def has (fo : Found) (l : List Nat) : Bool := fo.any fun q => decide (q.1 = l)
theorem encD_any (fo : Found) (l : List Nat) : ((encD fo).any fun kv => decide (kv.1 = kR l)) = has fo l := by
  unfold encD has
  rw [List.any_map]
  congr 1
  funext q
  show decide (kR q.1 = kR l) = decide (q.1 = l)
  apply decide_eq_decide.mpr
  exact ⟨kR_inj, fun h => by rw [h]⟩
theorem dget_isSome (kvs : List (List Key × PyData)) (k : List Key) : (dget kvs k).isSome = kvs.any fun kv => decide (kv.1 = k) := by
  unfold dget
  rw [Option.isSome_map]
  induction kvs with
  | nil => rfl
  | cons p ps ih =>
    rw [List.any_cons]
    by_cases h : p.1 = k
    · rw [List.find?_cons_of_pos (by simpa using h), decide_eq_true h]
      rfl
    · rw [List.find?_cons_of_neg (by simpa using h), decide_eq_false h, Bool.false_or]
      exact ih
theorem encD_has (fo : Found) (l : List Nat) : (dget (encD fo) (kR l)).isSome = has fo l := by rw [dget_isSome, encD_any]
theorem encD_put {fo : Found} {l : List Nat} (h : has fo l = false) (x : Option (List Nat)) : dput (encD fo) (kR l) (item x) = encD (fo ++ [(l, x)]) := by
  unfold dput
  rw [encD_any, h, if_neg Bool.false_ne_true]
  unfold encD
  rw [List.map_append]
  rfl
section
variable {X : Cx} {Γ : En} {r1 : Res} {a : Expr} {p pos : Pos}
theorem bv_tupN {l : List Nat} (hg : Gl X "tuple") (hm : X.mg "tuple" = none) (ha : BR X a Γ r1) (hl : listOf Γ r1 = some (nums l)) (he : starEach [a] X.env = (false, eval a X.env) :: starEach [] X.env := by rfl) (hpl : (backTo pos (starEach [] X.env)).any (·.1) = false := by rfl) : BV X (.Call (.Name "tuple" p) [a] [] pos) Γ (ti (toI l)) := by
  have := bv_tuple (p := p) hg hm ha hl he hpl
  rw [ti_toI] at this
  exact this
end
/-! ### begun -/
def encP (q : List Nat × List Nat) : PyData := .tuple [nrow q.1, nrow q.2]
/-- one of the later ones -/
def begStep (s : Found × List (List Nat)) (q : List Nat × List Nat) : Found × List (List Nat) := if has s.1 q.2 then s else (s.1 ++ [(q.2, some q.1)], s.2 ++ [q.2])
def begun (fo : Found) (later : List (List Nat × List Nat)) : Found × List (List Nat) := later.foldl begStep (fo, [])
theorem begun_len (later : List (List Nat × List Nat)) : ∀ (fo : Found) (ln : List (List Nat)), ((later.foldl begStep (fo, ln)).1).length ≤ fo.length + later.length ∧ ((later.foldl begStep (fo, ln)).2).length ≤ ln.length + later.length := by
  induction later with
  | nil => intro fo ln; exact ⟨by simp, by simp⟩
  | cons q later ih =>
    intro fo ln
    rw [List.foldl_cons]
    cases h : has fo q.2 with
    | true =>
      have e : begStep (fo, ln) q = (fo, ln) := by unfold begStep; rw [h]; rfl
      have := ih fo ln
      rw [e, List.length_cons]
      exact ⟨by omega, by omega⟩
    | false =>
      have e : begStep (fo, ln) q = (fo ++ [(q.2, some q.1)], ln ++ [q.2]) := by unfold begStep; rw [h]; rfl
      have := ih (fo ++ [(q.2, some q.1)]) (ln ++ [q.2])
      rw [e, List.length_cons]
      rw [List.length_append, List.length_append, List.length_singleton, List.length_singleton] at this
      exact ⟨by omega, by omega⟩
section
variable {P : Program} {w : World} {K : PySem.W.Frag} {mg : Str → Option Value} {base : Heap} {k : Nat} {f : Addr} {fd : FuncData}
def S_begun : Sb := fun es Φ => ∃ (fo : Found) (later : List (List Nat × List Nat)), es = [.dic (encD fo), .own (later.map encP)] ∧ fo.length + later.length < 2 ^ 24 ∧ later.length ≤ 2 ^ 24 ∧
  Φ (.pair ((begun fo later).2.map nrow) []) [.dic (encD (begun fo later).1), .dat (.list (later.map encP))]
theorem ok_begun (F : Fun K "begun" "begun" (top 20) f fd) (m_tuple : mg "tuple" = none) : FnOk P w K mg base CX0 1 f fd ["found", "later"] (toSp K S_begun) := by
  refine fn_ok [0, 1] F sc20 (fun es Φ ⟨x, y, e, _⟩ => by subst e; rfl) (fun es Φ ⟨x, y, e, _⟩ => by subst e; exact own_of rfl) (fun cdv A outer s H E hr es Φ ⟨fo, later, e, hl, hl2, hΦ⟩ => ?_)
  subst e
  refine sv_freeze (i := 1) rfl ?_
  refine sv_asg (i := 2) sc20.nd rfl (.inl rfl) (by decide) (br_lst ba_nil (by first | exact Nat.le_of_ble_eq_true rfl | decide | assumption | (simp [sizeLine_eq]; omega))) ?_
  refine sv_for (L := later) (enc := encP) (is := [3, 4]) (sp := fun q => [nrow q.1, nrow q.2]) PassesOwn.never rfl (pi_list pe_can) (gv_list (bv_v 1 rfl)) (by decide) (fun q _ => bg_tup rfl (pgs2 (pg_name (i := 3) sc20.nd rfl (.inl rfl)) (pg_name (i := 4) sc20.nd rfl (.inl rfl))) rfl)
    (fun pre Γ1 => ∃ t3 t4, Γ1 = [.dic (encD (pre.foldl begStep (fo, [])).1), .dat (.list (later.map encP)), .own ((pre.foldl begStep (fo, [])).2.map nrow), t3, t4]) ⟨_, _, rfl⟩ ?_ ?_
  · rintro pre q post Γ1 e ⟨t3, t4, rfl⟩
    have hb := begun_len pre fo []
    have hpre : pre.length < later.length := by rw [e]; simp
    have hst : (pre ++ [q]).foldl begStep (fo, []) = begStep (pre.foldl begStep (fo, [])) q := by rw [List.foldl_append]; rfl
    generalize pre.foldl begStep (fo, []) = st at hb hst ⊢
    rw [hst]
    have tup : ∀ {X : Cx} {Γ : En}, True := fun {_ _} => trivial
    refine sv_when (bt_dnotIn (hu_of hr) (bv_tupN (l := q.2) (by rfl) m_tuple (bv_v 4 rfl) rfl) (br_d 0 rfl) rfl) (fun c => ?_) (fun c => ?_)
    · have c' : has st.1 q.2 = false := by
        have : (!(dget (encD st.1) (kR q.2)).isSome) = true := c
        rw [encD_has] at this
        cases h : has st.1 q.2 <;> simp_all
      refine sv_dput (i := 0) (hu_of hr) rfl (.inl rfl) rfl (bv_v 3 rfl) (bv_tupN (l := q.2) (by rfl) m_tuple (bv_v 4 rfl) rfl) (by unfold encD; rw [List.length_map, sizeLine_eq]; omega) ?_
      refine sv_expr (ev_append (i := 2) rfl (.inl rfl) rfl (BR.ev (bv_v 4 rfl) ⟨_, _, rfl, rfl, ?_, sv_nil (sv_nil ⟨.dat (nrow q.1), .dat (nrow q.2), ?_⟩)⟩))
      · rw [List.length_map, sizeLine_eq]
        simp only [List.length_nil] at hb
        omega
      · have e1 : begStep st q = (st.1 ++ [(q.2, some q.1)], st.2 ++ [q.2]) := by unfold begStep; rw [c']; rfl
        rw [e1]
        show [Ent.dic (dput (encD st.1) (kR q.2) (item (some q.1))), _, _, _, _] = _
        rw [encD_put c']
        simp only [List.map_append]
        rfl
    · have c' : has st.1 q.2 = true := by
        have : (!(dget (encD st.1) (kR q.2)).isSome) = false := c
        rw [encD_has] at this
        cases h : has st.1 q.2 <;> simp_all
      have e1 : begStep st q = st := by unfold begStep; rw [c']; rfl
      rw [e1]
      exact sv_nil ⟨_, _, rfl⟩
  · rintro Γ1 ⟨t3, t4, rfl⟩
    exact sv_ret (BR.ev (br_pairP (i := 2) rfl (.inl rfl) rfl (br_lst ba_nil (Nat.zero_le _))) ⟨_, rfl, hΦ⟩)
end
end K75
set_option Elab.async false
set_option autoImplicit false
set_option linter.all false
set_option maxRecDepth 100000
set_option maxHeartbeats 2000000
/-! K5: ways_from. -/
namespace K75
open PySem PySem.Spec PyProof.Rows L2 Bv

theorem shaped_rows (rs : List (List Nat)) : SeqAt.shaped (.list (rs.map nrow)) = true := by
  have h1 : (PyData.list (rs.map nrow)).canLay0 = true := by
    unfold PyData.canLay0
    induction rs with
    | nil => rfl
    | cons r rs ih =>
      rw [List.map_cons]
      unfold PyData.canLayAll0
      rw [ih, Bool.and_true]
      exact (Bool.and_eq_true_iff.mp (shaped_nrow r)).1
  have h2 : (PyData.list (rs.map nrow)).depth ≤ 64 := by
    have d : ∀ rs : List (List Nat), PyData.depthAll (rs.map nrow) ≤ 1 := by
      intro rs
      induction rs with
      | nil => exact Nat.zero_le _
      | cons r rs ih =>
        rw [List.map_cons]
        unfold PyData.depthAll
        have h := of_decide_eq_true (Bool.and_eq_true_iff.mp (shaped_nrow r)).2
        have e : (nrow r).depth = 1 := by
          unfold nrow PyData.depth
          have : ∀ ns : List Nat, PyData.depthAll (ns.map fun n => PyData.int (n : Nat)) = 0 := by
            intro ns
            induction ns with
            | nil => rfl
            | cons n ns ih => rw [List.map_cons]; unfold PyData.depthAll; rw [ih]; rfl
          rw [this]
        rw [e]
        omega
    unfold PyData.depth
    have := d rs
    omega
  unfold SeqAt.shaped
  rw [h1, decide_eq_true h2]
  rfl
theorem eqv_nil (xs : List PyData) : PyData.eqv (.list xs) (.list []) = xs.isEmpty := by
  cases xs <;> rfl
abbrev St3 := Found × List (List Nat) × List (List Nat × List Nat)
def inStep (here : List Nat) (s : St3) (q : Bool × List Nat) : St3 :=
  if q.1 = true then (s.1, s.2.1, s.2.2 ++ [(here, q.2)]) else if has s.1 q.2 = true then s else (s.1 ++ [(q.2, some here)], s.2.1 ++ [q.2], s.2.2)
def inner (here : List Nat) (s : St3) : St3 := (mt here).foldl (inStep here) s
def next (s : St3) : St3 := if s.2.1 = [] then ((begun s.1 s.2.2).1, (begun s.1 s.2.2).2, []) else s
def turn (s : St3) : St3 := match s.2.1 with
  | [] => s
  | here :: rest => next (inner here (s.1, rest, s.2.2))
theorem inner_len (here : List Nat) (qs : List (Bool × List Nat)) : ∀ s : St3, (qs.foldl (inStep here) s).1.length ≤ s.1.length + qs.length ∧ (qs.foldl (inStep here) s).2.1.length ≤ s.2.1.length + qs.length ∧ (qs.foldl (inStep here) s).2.2.length ≤ s.2.2.length + qs.length := by
  induction qs with
  | nil => intro s; exact ⟨by simp, by simp, by simp⟩
  | cons q qs ih =>
    intro s
    rw [List.foldl_cons]
    have h := ih (inStep here s q)
    have g : (inStep here s q).1.length ≤ s.1.length + 1 ∧ (inStep here s q).2.1.length ≤ s.2.1.length + 1 ∧ (inStep here s q).2.2.length ≤ s.2.2.length + 1 := by
      unfold inStep
      by_cases h1 : q.1 = true
      · rw [if_pos h1]; simp
      · rw [if_neg h1]
        by_cases h2 : has s.1 q.2 = true
        · rw [if_pos h2]; simp
        · rw [if_neg h2]; simp
    rw [List.length_cons]
    omega
/-- what the walk wants of the states -/
structure WOk (one : List Nat) (J : St3 → Prop) (meas : St3 → Nat) : Prop where
  init : J ([(one, none)], [one], [])
  step : ∀ s, J s → s.2.1 ≠ [] → J (turn s) ∧ meas (turn s) < meas s
  size : ∀ s, J s → s.1.length + s.2.2.length + 8000 < 2 ^ 24 ∧ s.2.1.length + 4000 < 2 ^ 24
  short : ∀ s, J s → ∀ r ∈ s.2.1, r.length ≤ 1000
section
variable {P : Program} {w : World} {K : PySem.W.Frag} {mg : Str → Option Value} {base : Heap} {k : Nat} {f : Addr} {fd : FuncData}
def S_ways : Sb := fun es Φ => ∃ (one : List Nat) (J : St3 → Prop) (meas : St3 → Nat), es = [.dat (nrow one)] ∧ WOk one J meas ∧ ∀ s, J s → s.2.1 = [] → Φ (.newD (encD s.1)) es
theorem ok_ways (F : Fun K "ways_from" "ways_from" (top 19) f fd) (C_moved_there : Calls P w K mg base 1 "moved_there" S_moved) (C_begun : Calls P w K mg base 1 "begun" S_begun) (m_tuple : mg "tuple" = none) : FnOk P w K mg base CX0 2 f fd ["row"] (toSp K S_ways) := by
  refine fn_ok [] F sc19 (fun es Φ ⟨x, _, _, e, _⟩ => by subst e; rfl) (fun es Φ ⟨x, _, _, e, _⟩ => by subst e; exact own_of rfl) (fun cdv A outer s H E hr es Φ ⟨one, J, meas, e, W, hΦ⟩ => ?_)
  subst e
  have nm : ∀ i : Nat, i ∉ ([] : List Nat) := fun _ => List.not_mem_nil
  have nf : ∀ (is : List Nat), ∀ i ∈ is, i ∉ ([] : List Nat) := fun _ _ _ => List.not_mem_nil
  refine sv_par3 (i := 1) (j := 2) (l := 3) rfl sc19.nd rfl rfl rfl (by decide) rfl rfl rfl (nf _)
    (eva_cons (BR.ev (br_disp1 hr.units0 (bv_tupN (l := one) (by rfl) m_tuple (bv_v 0 rfl) rfl) bv_non) (eva_cons (BR.ev (br_lst (ba_cons (bv_v 0 rfl) ba_nil) (Nat.le_of_ble_eq_true rfl)) (eva_cons (BR.ev (br_lst ba_nil (Nat.zero_le _)) (eva_nil ⟨fun i h => (nomatch h), fun i h => (nomatch h), fun i h => (nomatch h), _, _, _, rfl, fun r hr' => ?_, ?_⟩)))))))
  · simp at hr'
    rcases hr' with rfl | rfl | rfl <;> rfl
  refine sv_while PassesOwn.never (fun m Γ1 => ∃ (st : St3) (t4 t5 t6 : Ent), J st ∧ m = meas st ∧ Γ1 = [.dat (nrow one), .dic (encD st.1), .own (st.2.1.map nrow), .own (st.2.2.map encP), t4, t5, t6]) (meas ([(one, none)], [one], [])) ⟨_, .no, .no, .no, W.init, rfl, rfl⟩ ?_
  rintro m Γ1 ⟨st, t4, t5, t6, hJ, rfl, rfl⟩
  obtain ⟨fo, ln, la⟩ := st
  refine ⟨!(ln.map nrow).isEmpty, BT.is (bt_ne hr (br_o 2 rfl) (br_lst ba_nil (by first | exact Nat.le_of_ble_eq_true rfl | decide | assumption | (simp [sizeLine_eq]; omega))) rfl rfl (shaped_rows ln) rfl) (by rw [eqv_nil]), fun c => ?_, fun c => ?_⟩
  · cases ln with
    | nil => cases c
    | cons here rest =>
      have hsz := W.size _ hJ
      have hsh := W.short _ hJ here List.mem_cons_self
      have hst := W.step _ hJ (by simp)
      have g0 : L2.atI ((here :: rest).map nrow) 0 = some (nrow here) := atI_nat (j := 0) rfl
      have e1 : cutL ((here :: rest).map nrow) (some 1) none = rest.map nrow := cut_from _ 1 rfl
      refine sv_par (i := 4) (j := 2) rfl sc19.nd rfl rfl (by decide) rfl rfl ⟨nm _, nm _⟩ (eva_cons (BR.ev (bv_ix (br_o 2 rfl) bv_int rfl g0) (eva_cons (BR.ev (BR.is (r2 := .new (rest.map nrow)) (br_slice (br_o 2 rfl) rfl (bo_some bv_int) bo_none) (by rw [e1])) (eva_nil ⟨fun i h => (nomatch h), fun i h => (nomatch h), _, _, rfl, ⟨rfl, rfl⟩, ?_⟩)))))
      have C1 : S_moved ([nrow here].map .dat) fun r' _ => r' = .new ((mt here).map encM) := ⟨here, rfl, hsh, rfl⟩
      have hmt := mt_len here
      refine sv_for (L := mt here) (enc := encM) (is := [5, 6]) (sp := fun q => [.bool q.1, nrow q.2]) PassesOwn.never rfl (pi_list pe_can) (gv_list (br_give (br_own C_moved_there (hr.mono (by decide)) (by rfl) (ba_cons (bv_v 4 rfl) ba_nil) C1))) (nf _) (fun q _ => bg_tup rfl (pgs2 (pg_name (i := 5) sc19.nd rfl (.inl rfl)) (pg_name (i := 6) sc19.nd rfl (.inl rfl))) rfl)
        (fun pre Γ1 => ∃ t5 t6, Γ1 = [.dat (nrow one), .dic (encD (pre.foldl (inStep here) (fo, rest, la)).1), .own ((pre.foldl (inStep here) (fo, rest, la)).2.1.map nrow), .own ((pre.foldl (inStep here) (fo, rest, la)).2.2.map encP), .dat (nrow here), t5, t6]) ⟨_, _, rfl⟩ ?_ ?_
      · rintro pre q post Γ1 e ⟨t5, t6, rfl⟩
        have hb := inner_len here pre (fo, rest, la)
        have hpre : pre.length < (mt here).length := by rw [e]; simp
        have hs2 : (pre ++ [q]).foldl (inStep here) (fo, rest, la) = inStep here (pre.foldl (inStep here) (fo, rest, la)) q := by rw [List.foldl_append]; rfl
        simp only [List.length_cons] at hsz
        generalize pre.foldl (inStep here) (fo, rest, la) = st at hb hs2 ⊢
        obtain ⟨fo1, ln1, la1⟩ := st
        rw [hs2]
        simp only at hb
        obtain ⟨three, late⟩ := q
        refine sv_when (BT.is (d := decide (has fo1 late = false ∧ three = false)) (bw_t (bw_and (bt_dnotIn (hu_of hr) (bv_tupN (l := late) (by rfl) m_tuple (bv_v 6 rfl) rfl) (br_d 1 rfl) rfl) (fun _ => bw_and1 (bt_not (bt_val (bv_v 5 rfl)))))) (by show (!(dget (encD fo1) (kR late)).isSome && !three) = _; rw [encD_has]; cases has fo1 late <;> cases three <;> rfl)) (fun c => ?_) (fun c => ?_)
        · obtain ⟨c1, c2⟩ := of_decide_eq_true c
          subst c2
          refine sv_dput (i := 1) (hu_of hr) rfl (.inl rfl) rfl (bv_v 4 rfl) (bv_tupN (l := late) (by rfl) m_tuple (bv_v 6 rfl) rfl) (by unfold encD; rw [List.length_map, sizeLine_eq]; show fo1.length < 16777216; omega) ?_
          refine sv_expr (ev_append (i := 2) rfl (.inl rfl) rfl (BR.ev (bv_v 6 rfl) ⟨_, _, rfl, rfl, by rw [List.length_map, sizeLine_eq]; show ln1.length < 16777216; omega, sv_nil ?_⟩))
          refine sv_when (bt_val (bv_v 5 rfl)) (fun z => by cases z) (fun _ => sv_nil ⟨.dat (.bool false), .dat (nrow late), ?_⟩)
          have e1 : inStep here (fo1, ln1, la1) (false, late) = (fo1 ++ [(late, some here)], ln1 ++ [late], la1) := by unfold inStep; rw [if_neg Bool.false_ne_true, c1]; rfl
          rw [e1]
          show [_, Ent.dic (dput (encD fo1) (kR late) (item (some here))), _, _, _, _, _] = _
          rw [encD_put c1]
          simp only [List.map_append]
          rfl
        · have c' := of_decide_eq_false c
          cases three with
          | true =>
            have e1 : inStep here (fo1, ln1, la1) (true, late) = (fo1, ln1, la1 ++ [(here, late)]) := by unfold inStep; rw [if_pos rfl]
            refine sv_when (bt_val (bv_v 5 rfl)) (fun _ => ?_) (fun z => by cases z)
            refine sv_expr (ev_append (i := 3) rfl (.inl rfl) rfl (BR.ev (bv_tup (ba_cons (bv_v 4 rfl) (ba_cons (bv_v 6 rfl) ba_nil)) (Nat.le_of_ble_eq_true rfl)) ⟨_, _, rfl, rfl, by rw [List.length_map, sizeLine_eq]; show la1.length < 16777216; omega, sv_nil (sv_nil ⟨.dat (.bool true), .dat (nrow late), ?_⟩)⟩))
            rw [e1]
            simp only [List.map_append]
            rfl
          | false =>
            have c1 : has fo1 late = true := by
              cases h : has fo1 late with
              | true => rfl
              | false => exact absurd ⟨h, rfl⟩ c'
            have e1 : inStep here (fo1, ln1, la1) (false, late) = (fo1, ln1, la1) := by unfold inStep; rw [if_neg Bool.false_ne_true, c1]; rfl
            refine sv_when (bt_val (bv_v 5 rfl)) (fun z => by cases z) (fun _ => sv_nil ⟨.dat (.bool false), .dat (nrow late), ?_⟩)
            rw [e1]
            rfl
      · rintro Γ1 ⟨t5, t6, rfl⟩
        have hb := inner_len here (mt here) (fo, rest, la)
        have ei : inner here (fo, rest, la) = (mt here).foldl (inStep here) (fo, rest, la) := rfl
        have et : turn (fo, here :: rest, la) = next (inner here (fo, rest, la)) := rfl
        rw [et, ei] at hst
        simp only [List.length_cons] at hsz
        generalize (mt here).foldl (inStep here) (fo, rest, la) = st at hb hst ⊢
        obtain ⟨fo1, ln1, la1⟩ := st
        simp only at hb
        refine sv_when (BT.is (d := ln1.isEmpty) (bt_eq hr (br_o 2 rfl) (br_lst ba_nil (by first | exact Nat.le_of_ble_eq_true rfl | decide | assumption | (simp [sizeLine_eq]; omega))) rfl rfl (shaped_rows ln1) rfl) (by rw [eqv_nil]; cases ln1 <;> rfl)) (fun c => ?_) (fun c => ?_)
        · have e1 : ln1 = [] := by cases ln1 with | nil => rfl | cons x y => cases c
          subst e1
          have en : next (fo1, [], la1) = ((begun fo1 la1).1, (begun fo1 la1).2, []) := if_pos rfl
          rw [en] at hst
          refine sv_unpair (i := 2) (j := 3) rfl (pgs2 (pg_name (i := 2) sc19.nd rfl (.inl rfl)) (pg_name (i := 3) sc19.nd rfl (.inl rfl))) ⟨nm _, nm _⟩ (ev_own C_begun (hr.mono (by decide)) (by rfl) (eva_cons (BR.ev (br_d 1 rfl) (eva_cons (BR.ev (br_o 3 rfl) (eva_nil ⟨fun i h => by cases h; trivial, fun i h => by cases h; trivial, by decide, ?_⟩))))))
          refine ⟨fo1, la1, rfl, by omega, by omega, _, _, rfl, sv_nil (sv_nil ?_)⟩
          exact ⟨meas _, hst.2, _, _, _, _, hst.1, rfl, rfl⟩
        · have e1 : next (fo1, ln1, la1) = (fo1, ln1, la1) := if_neg (fun z => by have z' : ln1 = [] := z; rw [z'] at c; cases c)
          rw [e1] at hst
          exact sv_nil ⟨meas _, hst.2, _, _, _, _, hst.1, rfl, rfl⟩
  · cases ln with
    | cons here rest => cases c
    | nil => exact sv_ret (BR.ev (br_d 1 rfl) ⟨_, rfl, hΦ _ hJ rfl⟩)
end
end K75
set_option Elab.async false
set_option autoImplicit false
set_option linter.all false
set_option maxRecDepth 100000
set_option maxHeartbeats 2000000
/-! K6: row_of_moves, moved_rows. -/
namespace K75
open PySem PySem.Spec PyProof.Rows L2 Bv

def look (fo : Found) (l : List Nat) : Option (Option (List Nat)) := (fo.find? fun q => decide (q.1 = l)).map (·.2)
theorem encD_get (fo : Found) (l : List Nat) : dget (encD fo) (kR l) = (look fo l).map item := by
  unfold dget look encD
  induction fo with
  | nil => rfl
  | cons q fo ih =>
    rw [List.map_cons]
    by_cases h : q.1 = l
    · rw [List.find?_cons_of_pos (by simpa using congrArg kR h), List.find?_cons_of_pos (by simpa using h)]
      rfl
    · rw [List.find?_cons_of_neg (by simp; exact fun z => h (kR_inj z)), List.find?_cons_of_neg (by simpa using h)]
      exact ih
/-- the rows from other back to one -/
structure Back (fo : Found) (one other : List Nat) (L : List (List Nat)) : Prop where
  head : L[0]? = some other
  last : ∀ j a, L[j]? = some a → (a = one ↔ j + 1 = L.length)
  next : ∀ j a b, L[j]? = some a → L[j + 1]? = some b → look fo a = some (some b)
  size : L.length ≤ 2 ^ 20
theorem take_last {α : Type} {L : List α} {j : Nat} {a : α} (h : L[j]? = some a) : L.take (j + 1) = L.take j ++ [a] := by
  rw [List.take_add_one, h]
  rfl
section
variable {P : Program} {w : World} {K : PySem.W.Frag} {mg : Str → Option Value} {base : Heap} {k : Nat} {f : Addr} {fd : FuncData}
def S_rom : Sb := fun es Φ => ∃ (n : Nat) (one other : List Nat) (J : St3 → Prop) (meas : St3 → Nat), es = [.dat (.int n), .dat (nrow one), .dat (nrow other)] ∧ (1 ≤ n ∧ n ≤ 5 ∧ one.length ≤ 1000 ∧ other.length ≤ 1000 ∧ isRow n one = true ∧ isRow n other = true) ∧ WOk one J meas ∧
  ∀ s, J s → s.2.1 = [] → ∃ L, Back s.1 one other L ∧ Φ (.new (L.reverse.map nrow)) es
theorem ok_rom (F : Fun K "row_of_moves" "row_of_moves" (top 21) f fd) (C_check_few : Calls P w K mg base 3 "check_few" S_check_few) (C_check_rows : Calls P w K mg base 6 "check_rows" S_check_rows) (C_ways : Calls P w K mg base 2 "ways_from" S_ways) (m_tuple : mg "tuple" = none) (m_list : mg "list" = none) : FnOk P w K mg base CX0 7 f fd ["many", "one", "other"] (toSp K S_rom) := by
  refine fn_ok [] F sc21 (fun es Φ ⟨_, _, _, _, _, e, _⟩ => by subst e; rfl) (fun es Φ ⟨_, _, _, _, _, e, _⟩ => by subst e; exact own_of rfl) (fun cdv A outer s H E hr es Φ ⟨n, one, other, J, meas, e, ⟨h1, h2, l1, l2, r1, r2⟩, W, hΦ⟩ => ?_)
  subst e
  have nm : ∀ i : Nat, i ∉ ([] : List Nat) := fun _ => List.not_mem_nil
  have C1 : S_check_few ([PyData.int (n : Nat)].map .dat) fun r' _ => r' = .dat .none := ⟨n, rfl, h1, h2, rfl⟩
  have C2 : S_check_rows ([PyData.int (n : Nat), nrow one, nrow other].map .dat) fun r' _ => r' = .dat .none := ⟨n, one, other, rfl, h1, by omega, l1, l2, r1, r2, rfl⟩
  refine sv_expr (BR.ev (br_own C_check_few (hr.mono (by decide)) (by rfl) (ba_cons (bv_v 0 rfl) ba_nil) C1) ?_)
  refine sv_expr (BR.ev (br_own C_check_rows (hr.mono (by decide)) (by rfl) (ba_cons (bv_v 0 rfl) (ba_cons (bv_v 1 rfl) (ba_cons (bv_v 2 rfl) ba_nil))) C2) ?_)
  refine sv_par (i := 3) (j := 4) rfl sc21.nd rfl rfl (by decide) rfl rfl ⟨nm _, nm _⟩ (eva_cons (ev_own C_ways (hr.mono (by decide)) (by rfl) (BA.eva (ba_cons (bv_v 1 rfl) ba_nil) ⟨(show ([] : List Nat).Nodup from List.nodup_nil), one, J, meas, rfl, W, fun s hJ he => ?_⟩)))
  obtain ⟨L, hB, hΦ'⟩ := hΦ s hJ he
  refine eva_cons (BR.ev (br_lst (ba_cons (br_give (br_list (by rfl) m_list (bv_v 2 rfl) (.inl rfl))) ba_nil) (Nat.le_of_ble_eq_true rfl)) (eva_nil ⟨fun i h => (nomatch h), fun i h => (nomatch h), _, _, rfl, ⟨rfl, rfl⟩, ?_⟩))
  have hL0 : 0 < L.length := (List.getElem?_eq_some_iff.mp hB.head).1
  refine sv_while PassesOwn.never (fun m Γ1 => ∃ j, j + 1 + m = L.length ∧ Γ1 = [.dat (.int n), .dat (nrow one), .dat (nrow other), .dic (encD s.1), .own ((L.take (j + 1)).map nrow)]) (L.length - 1) ⟨0, by omega, by rw [take_last hB.head]; rfl⟩ ?_
  rintro m Γ1 ⟨j, hj, rfl⟩
  obtain ⟨a, ha⟩ : ∃ a, L[j]? = some a := ⟨L[j], List.getElem?_eq_getElem (by omega)⟩
  have g1 : L2.atI ((L.take (j + 1)).map nrow) (-1) = some (nrow a) := by
    rw [take_last ha, List.map_append]
    exact atI_last _ _
  have hl := hB.last j a ha
  refine ⟨!decide (a = one), BT.is (bt_ne hr (bv_ix (br_o 4 rfl) (bv_tC pe_usub1) rfl g1) (bv_v 1 rfl) rfl rfl (shaped_nrow _) (shaped_nrow _)) (by rw [eqv_nrow]), fun c => ?_, fun c => ?_⟩
  · have c' : ¬ a = one := by intro z; rw [decide_eq_true z] at c; cases c
    have hj2 : j + 1 < L.length := by
      have : ¬ j + 1 = L.length := fun z => c' (hl.mpr z)
      omega
    obtain ⟨b, hb⟩ : ∃ b, L[j + 1]? = some b := ⟨L[j + 1], List.getElem?_eq_getElem hj2⟩
    have hlk := hB.next j a b ha hb
    have g2 : dget (encD s.1) (ik (toI a)) = some (nrow b) := by
      show dget (encD s.1) (kR a) = _
      rw [encD_get, hlk]
      rfl
    have hs20 := hB.size
    refine sv_expr (ev_append (i := 4) rfl (.inl rfl) rfl (BR.ev (br_give (br_list (by rfl) m_list (bv_dget (hu_of hr) (br_d 3 rfl) rfl (bv_tupN (l := a) (by rfl) m_tuple (bv_ix (br_o 4 rfl) (bv_tC pe_usub1) rfl g1) rfl) g2 (fun _ _ => rfl)) (.inl rfl))) ⟨_, _, rfl, rfl, ?_, sv_nil ⟨m - 1, by omega, j + 1, by omega, ?_⟩⟩))
    · rw [List.length_map, List.length_take, sizeLine_eq]
      omega
    · rw [take_last hb, List.map_append]
      rfl
  · have c' : a = one := by
      by_cases z : a = one
      · exact z
      · rw [decide_eq_false z] at c; cases c
    have hj2 := hl.mp c'
    have eL : L.take (j + 1) = L := List.take_of_length_le (by omega)
    rw [eL]
    refine sv_ret (BR.ev (BR.is (r2 := .new (L.reverse.map nrow)) (br_rev (br_o 4 rfl) rfl pe_usub1 (fun _ _ => rfl)) (by rw [List.map_reverse])) ⟨_, rfl, hΦ'⟩)
/-! ### moved_rows -/
def toRow (r : List Nat) : List Int := toI r
theorem row_toI (r : List Nat) : row (toI r) = nrow r := by
  unfold row toI nrow
  rw [List.map_map]
  rfl
def sortN (rs : List (List Nat)) : List (List Int) := (rs.map toI).mergeSort rowLe
def S_moved_rows : Sb := fun es Φ => ∃ (n : Nat) (r : List Nat), es = [.dat (.int n), .dat (nrow r)] ∧ 1 ≤ n ∧ n ≤ 1000 ∧ r.length ≤ 1000 ∧ isRow n r = true ∧ Φ (.new ((sortN ((mt r).map (·.2))).map row)) es
theorem ok_moved_rows (F : Fun K "moved_rows" "moved_rows" (top 17) f fd) (C_check_row : Calls P w K mg base 5 "check_row" S_check_row) (C_moved_there : Calls P w K mg base 1 "moved_there" S_moved) (m_sorted : mg "sorted" = none) : FnOk P w K mg base CX0 6 f fd ["many", "row"] (toSp K S_moved_rows) := by
  refine fn_ok [] F sc17 (fun es Φ ⟨_, _, e, _⟩ => by subst e; rfl) (fun es Φ ⟨_, _, e, _⟩ => by subst e; exact own_of rfl) (fun cdv A outer s H E hr es Φ ⟨n, r, e, h1, h2, l1, r1, hΦ⟩ => ?_)
  subst e
  have C1 : S_check_row ([PyData.int (n : Nat), nrow r].map .dat) fun r' _ => r' = .dat .none := ⟨n, r, rfl, h1, h2, l1, r1, rfl⟩
  have C2 : S_moved ([nrow r].map .dat) fun r' _ => r' = .new ((mt r).map encM) := ⟨r, rfl, l1, rfl⟩
  have hmt := mt_len r
  refine sv_expr (BR.ev (br_own C_check_row (hr.mono (by decide)) (by rfl) (ba_cons (bv_v 0 rfl) (ba_cons (bv_v 1 rfl) ba_nil)) C1) ?_)
  refine sv_ret (BR.ev (br_sortedR (rows := ((mt r).map fun q : Bool × List Nat => q.2).map toI) (hu3 hr) (by rfl) m_sorted (br_lc2 (L := mt r) (enc := encM) (sp1 := fun q => .bool q.1) (sp2 := fun q => nrow q.2) (f := fun q => nrow q.2) sc17.nd bk17_0 (pi_list pe_can) (gv_list (br_give (br_own C_moved_there (hr.mono (by decide)) (by rfl) (ba_cons (bv_v 1 rfl) ba_nil) C2))) (fun q _ Y hY => ?_) (by rw [sizeLine_eq]; omega) (fun q _ Y hY => ?_)) ?_ (by rw [List.length_map, List.length_map, sizeLine_eq]; omega)) ⟨_, rfl, hΦ⟩)
  · obtain ⟨_, _, _, _, _, rfl⟩ := hY
    exact bg_tup rfl (pgs2 (pg_name (i := 2) sc17.nd rfl (.inl rfl)) (pg_name (i := 3) sc17.nd rfl (.inl rfl))) rfl
  · obtain ⟨_, _, _, _, _, rfl⟩ := hY
    exact (bv_v 3 rfl)
  · show some _ = some _
    rw [List.map_map, List.map_map]
    congr 1
    apply List.map_congr_left
    intro q _
    exact (row_toI q.2).symm
end
end K75
set_option Elab.async false
set_option autoImplicit false
set_option linter.all false
set_option maxRecDepth 100000
set_option maxHeartbeats 2000000
/-! K7: is_row_of_moves. -/
namespace K75
open PySem PySem.Spec PyProof.Rows L2 Bv

abbrev Item := Option (List Nat)
def items (xs : List Item) : PyData := .list (xs.map item)
theorem nrow_depth (r : List Nat) : (nrow r).depth = 1 := by
  unfold nrow PyData.depth
  have : ∀ ns : List Nat, PyData.depthAll (ns.map fun n => PyData.int (n : Nat)) = 0 := by
    intro ns
    induction ns with
    | nil => rfl
    | cons n ns ih => rw [List.map_cons]; unfold PyData.depthAll; rw [ih]; rfl
  rw [this]
theorem item_lay (x : Item) : (item x).canLay0 = true ∧ (item x).depth ≤ 1 := by
  cases x with
  | none => exact ⟨rfl, Nat.zero_le _⟩
  | some r => exact ⟨(Bool.and_eq_true_iff.mp (shaped_nrow r)).1, by show (nrow r).depth ≤ 1; rw [nrow_depth]; exact Nat.le_refl _⟩
theorem items_lay (xs : List Item) : (items xs).canLay0 = true ∧ (items xs).depth ≤ 2 := by
  have h : PyData.canLayAll0 (xs.map item) = true ∧ PyData.depthAll (xs.map item) ≤ 1 := by
    induction xs with
    | nil => exact ⟨rfl, Nat.zero_le _⟩
    | cons x xs ih =>
      rw [List.map_cons]
      unfold PyData.canLayAll0 PyData.depthAll
      rw [ih.1, (item_lay x).1]
      have := (item_lay x).2
      exact ⟨rfl, by omega⟩
  unfold items
  refine ⟨?_, ?_⟩
  · unfold PyData.canLay0; exact h.1
  · unfold PyData.depth; omega
theorem shaped_item (x : Item) : SeqAt.shaped (item x) = true := by
  unfold SeqAt.shaped
  rw [(item_lay x).1, decide_eq_true (by have := (item_lay x).2; omega)]
  rfl
theorem shaped_items (xs : List Item) : SeqAt.shaped (items xs) = true := by
  unfold SeqAt.shaped
  rw [(items_lay xs).1, decide_eq_true (by have := (items_lay xs).2; omega)]
  rfl
def stepIn (r late : List Nat) : Bool := (mt r).any fun q => decide (q.2 = late)
def steps (L : List (List Nat)) : Bool := (L.zip (L.drop 1)).all fun q => stepIn q.1 q.2
def pathOk (n : Nat) (one other : List Nat) (xs : List Item) : Bool :=
  !xs.isEmpty && xs.all (isRowO n) && decide ((xs.filterMap id).head? = some one) && decide ((xs.filterMap id).getLast? = some other) && steps (xs.filterMap id)
theorem all_rows {n : Nat} : ∀ {xs : List Item}, xs.all (isRowO n) = true → ∃ L : List (List Nat), xs = L.map some ∧ ∀ r ∈ L, isRow n r = true
  | [], _ => ⟨[], rfl, fun r h => nomatch h⟩
  | none :: xs, h => by cases (Bool.and_eq_true_iff.mp h).1
  | some r :: xs, h => by
    obtain ⟨h1, h2⟩ := Bool.and_eq_true_iff.mp h
    obtain ⟨L, e, hL⟩ := all_rows h2
    refine ⟨r :: L, by rw [e]; rfl, fun q hq => ?_⟩
    rcases List.mem_cons.mp hq with rfl | hq
    · exact h1
    · exact hL q hq
theorem filt_some (L : List (List Nat)) : (L.map some).filterMap id = L := by
  induction L with
  | nil => rfl
  | cons r L ih => rw [List.map_cons, List.filterMap_cons]; simp only [id]; rw [ih]
theorem in_moves (L : List (Bool × List Nat)) (late : List Nat) : ((L.map fun q => nrow q.2).any fun z => PyData.eqv z (nrow late)) = L.any fun q => decide (q.2 = late) := by
  rw [List.any_map]
  congr 1
  funext q
  exact eqv_nrow _ _
theorem isA_shaped {d : PyData} (h : isA "list" d = true) : ∃ ds, d = .list ds := by
  have key : ∀ T, T ∈ ["NoneType", "bool", "int", "str", "tuple", "dict"] → (kitB T "list").getD false = false := by decide +kernel
  cases d with
  | list ds => exact ⟨ds, rfl⟩
  | none => have : (kitB "NoneType" "list").getD false = true := h; rw [key _ (by decide)] at this; cases this
  | bool b => have : (kitB "bool" "list").getD false = true := h; rw [key _ (by decide)] at this; cases this
  | int b => have : (kitB "int" "list").getD false = true := h; rw [key _ (by decide)] at this; cases this
  | str b => have : (kitB "str" "list").getD false = true := h; rw [key _ (by decide)] at this; cases this
  | tuple b => have : (kitB "tuple" "list").getD false = true := h; rw [key _ (by decide)] at this; cases this
  | dict b => have : (kitB "dict" "list").getD false = true := h; rw [key _ (by decide)] at this; cases this
section
variable {P : Program} {w : World} {K : PySem.W.Frag} {mg : Str → Option Value} {base : Heap} {k : Nat} {f : Addr} {fd : FuncData}
def S_irom : Sb := fun es Φ => ∃ (n : Nat) (one other : List Nat) (d : PyData), es = [.dat (.int n), .dat (nrow one), .dat (nrow other), .dat d] ∧ (1 ≤ n ∧ n ≤ 1000 ∧ one.length ≤ 1000 ∧ other.length ≤ 1000 ∧ isRow n one = true ∧ isRow n other = true) ∧
  ((isA "list" d = false ∧ Φ (.dat (.bool false)) es) ∨ ∃ xs : List Item, d = items xs ∧ xs.length ≤ 1000000 ∧ (∀ x ∈ xs, short x) ∧ Φ (.dat (.bool (pathOk n one other xs))) es)
theorem ok_irom (F : Fun K "is_row_of_moves" "is_row_of_moves" (top 23) f fd) (C_check_rows : Calls P w K mg base 6 "check_rows" S_check_rows) (C_is_row_there : Calls P w K mg base 4 "is_row_there" S_is_row) (C_moved_there : Calls P w K mg base 1 "moved_there" S_moved) (m_isinstance : mg "isinstance" = none) (m_list : mg "list" = none) (m_all : mg "all" = none) (m_zip : mg "zip" = none) :
    FnOk P w K mg base CX0 7 f fd ["many", "one", "other", "value"] (toSp K S_irom) := by
  refine fn_ok [] F sc23 (fun es Φ ⟨_, _, _, _, e, _⟩ => by subst e; rfl) (fun es Φ ⟨_, _, _, _, e, _⟩ => by subst e; exact own_of rfl) (fun cdv A outer s H E hr es Φ ⟨n, one, other, d, e, ⟨h1, h2, l1, l2, r1, r2⟩, hc⟩ => ?_)
  subst e
  have C1 : S_check_rows ([PyData.int (n : Nat), nrow one, nrow other].map .dat) fun r' _ => r' = .dat .none := ⟨n, one, other, rfl, h1, h2, l1, l2, r1, r2, rfl⟩
  refine sv_expr (BR.ev (br_own C_check_rows (hr.mono (by decide)) (by rfl) (ba_cons (bv_v 0 rfl) (ba_cons (bv_v 1 rfl) (ba_cons (bv_v 2 rfl) ba_nil))) C1) ?_)
  rcases hc with ⟨hd, hΦ⟩ | ⟨xs, rfl, hx, hs, hΦ⟩
  · refine sv_when (bw_t (bw_or (l := false) (bt_not (bt_val (bv_isi (tn := "list") (by rfl) m_isinstance (by rfl) m_list (by decide +kernel) (bv_v 3 rfl) rfl (by decide +kernel)))) (fun c => ?_))) (fun _ => sv_ret (BR.ev bv_bl ⟨_, rfl, hΦ⟩)) (fun c => ?_)
    · rw [hd] at c; cases c
    · rw [hd] at c; cases c
  · have eA : isA "list" (items xs) = true := isA_list _
    have e0 : PyData.eqv (items xs) (.list []) = xs.isEmpty := by unfold items; rw [eqv_nil]; cases xs <;> rfl
    have T1 := shaped_items xs
    refine sv_when (BT.is (d := xs.isEmpty || !xs.all (isRowO n)) (bw_t (bw_or (bt_not (bt_val (bv_isi (tn := "list") (by rfl) m_isinstance (by rfl) m_list (by decide +kernel) (bv_v 3 rfl) rfl (by decide +kernel)))) (fun _ => bw_or (bt_eq hr (bv_v 3 rfl) (br_lst ba_nil (by first | exact Nat.le_of_ble_eq_true rfl | decide | assumption | (simp [sizeLine_eq]; omega))) rfl rfl T1 rfl) (fun _ => bw_or1 (bt_not (bt_val (bv_all (bs := xs.map (isRowO n)) (by rfl) (by rfl) m_all
      (br_lc1 (L := xs) (enc := item) (f := fun x => .bool (isRowO n x)) sc23.nd bk23_0 (pi_list pe_can) (gv_list (bv_v 3 rfl)) (fun Y hY => ?_) (by rw [sizeLine_eq]; omega) (fun x hx Y hY => ?_)) ?_))))))) (by rw [eA, e0, all_bools]; rfl)) (fun c => ?_) (fun c => ?_)
    · obtain ⟨_, _, _, _, _, rfl⟩ := hY
      exact pg_name (i := 4) sc23.nd rfl (.inl rfl)
    · obtain ⟨_, _, _, _, _, rfl⟩ := hY
      have C2 : S_is_row ([PyData.int (n : Nat), item x].map .dat) fun r' _ => r' = .dat (.bool (isRowO n x)) := ⟨n, x, rfl, h1, h2, hs x hx, rfl⟩
      exact (br_own C_is_row_there (hr.mono (by decide)) (by rfl) (ba_cons (bv_v 0 rfl) (ba_cons (bv_v 4 rfl) ba_nil)) C2)
    · show some _ = some _
      rw [List.map_map]
      rfl
    · have e1 : pathOk n one other xs = false := by
        unfold pathOk
        cases h1 : xs.isEmpty
        · rw [h1, Bool.false_or] at c
          have : xs.all (isRowO n) = false := by cases h : xs.all (isRowO n) <;> simp_all
          rw [this]; rfl
        · rfl
      rw [e1] at hΦ
      exact sv_ret (BR.ev bv_bl ⟨_, rfl, hΦ⟩)
    · have c1 : xs.isEmpty = false := by cases h : xs.isEmpty <;> simp_all
      have c2 : xs.all (isRowO n) = true := by cases h : xs.all (isRowO n) <;> simp_all
      obtain ⟨L, rfl, hL⟩ := all_rows c2
      have eL : items (L.map some) = .list (L.map nrow) := by
        unfold items
        rw [List.map_map]
        rfl
      have hlen : L.length ≤ 1000000 := by rw [List.length_map] at hx; exact hx
      have hsh : ∀ r ∈ L, r.length ≤ 1000 := fun r hr => hs (some r) (List.mem_map.mpr ⟨r, hr, rfl⟩) r rfl
      have ep : pathOk n one other (L.map some) = (decide (L.head? = some one) && decide (L.getLast? = some other) && steps L) := by
        unfold pathOk
        rw [c1, c2, filt_some]
        rfl
      rw [ep] at hΦ
      rw [eL] at hΦ ⊢
      clear ep c2 T1 e0 eA hs hx
      obtain ⟨r0, rs, rfl⟩ : ∃ r0 rs, L = r0 :: rs := by
        cases L with
        | nil => cases c1
        | cons a b => exact ⟨a, b, rfl⟩
      obtain ⟨rl, hrl⟩ : ∃ rl, (r0 :: rs).getLast? = some rl := by
        cases h : (r0 :: rs).getLast? with
        | none => simp at h
        | some x => exact ⟨x, rfl⟩
      have g0 : L2.atI ((r0 :: rs).map nrow) 0 = some (nrow r0) := atI_nat (j := 0) rfl
      have g1 : L2.atI ((r0 :: rs).map nrow) (-1) = some (nrow rl) := by
        obtain ⟨ys, e⟩ := List.getLast?_eq_some_iff.mp hrl
        rw [e, List.map_append]
        exact atI_last _ _
      rw [show (r0 :: rs).head? = some r0 from rfl, hrl] at hΦ
      refine sv_when (BT.is (d := !(decide (r0 = one) && decide (rl = other))) (bw_t (bw_or (bt_ne hr (bv_ix (bv_v 3 rfl) bv_int rfl g0) (bv_v 1 rfl) rfl rfl (shaped_nrow _) (shaped_nrow _)) (fun _ => bw_or1 (bt_ne hr (bv_ix (bv_v 3 rfl) (bv_tC pe_usub1) rfl g1) (bv_v 2 rfl) rfl rfl (shaped_nrow _) (shaped_nrow _))))) (by rw [eqv_nrow, eqv_nrow]; cases decide (r0 = one) <;> cases decide (rl = other) <;> rfl)) (fun c => ?_) (fun c => ?_)
      · have e1 : (decide (some r0 = some one) && decide (some rl = some other) && steps (r0 :: rs)) = false := by
          by_cases a1 : r0 = one
          · by_cases a2 : rl = other
            · rw [decide_eq_true a1, decide_eq_true a2] at c; cases c
            · rw [decide_eq_false (fun z => a2 (Option.some.inj z)), Bool.and_false, Bool.false_and]
          · rw [decide_eq_false (fun z => a1 (Option.some.inj z)), Bool.false_and, Bool.false_and]
        rw [e1] at hΦ
        exact sv_ret (BR.ev bv_bl ⟨_, rfl, hΦ⟩)
      · have e1 : (decide (some r0 = some one) && decide (some rl = some other) && steps (r0 :: rs)) = steps (r0 :: rs) := by
          by_cases a1 : r0 = one
          · by_cases a2 : rl = other
            · rw [decide_eq_true (congrArg some a1), decide_eq_true (congrArg some a2), Bool.true_and, Bool.true_and]
            · rw [decide_eq_true a1, decide_eq_false a2] at c; cases c
          · rw [decide_eq_false a1] at c; cases c
        rw [e1] at hΦ
        generalize r0 :: rs = L at hΦ hlen hsh ⊢
        have ez : ((L.map nrow).zip ((L.drop 1).map nrow)).map (fun q => PyData.tuple [q.1, q.2]) = (L.zip (L.drop 1)).map fun q => PyData.tuple [nrow q.1, nrow q.2] := by
          rw [List.zip_map, List.map_map]
          rfl
        have ec : cutL (L.map nrow) (some 1) none = (L.drop 1).map nrow := by rw [cut_from _ 1 (i := 1) rfl, List.map_drop]
        have hzl : (L.zip (L.drop 1)).length ≤ 1000000 := by rw [List.length_zip]; omega
        refine sv_ret (BR.ev (bv_all (bs := (L.zip (L.drop 1)).map fun q => stepIn q.1 q.2) (by rfl) (by rfl) m_all (br_lc2 (L := L.zip (L.drop 1)) (enc := fun q => .tuple [nrow q.1, nrow q.2]) (sp1 := fun q => nrow q.1) (sp2 := fun q => nrow q.2) (f := fun q => .bool (stepIn q.1 q.2)) sc23.nd bk23_2
          (pi_zip (by rfl) m_zip (pa_cons pe_can (pa_cons pe_can pa_nil))) (ez ▸ gv_zip (bv_v 3 rfl) (BR.is (r2 := .dat (.list ((L.drop 1).map nrow))) (br_give (br_slice (bv_v 3 rfl) rfl (bo_some bv_int) bo_none)) (by rw [ec]))) (fun q _ Y hY => ?_) (by rw [sizeLine_eq]; omega) (fun q hq Y hY => ?_)) ?_) ⟨_, rfl, ?_⟩)
        · obtain ⟨_, _, _, _, _, rfl⟩ := hY
          exact bg_tup rfl (pgs2 (pg_name (i := 4) sc23.nd rfl (.inl rfl)) (pg_name (i := 7) sc23.nd rfl (.inl rfl))) rfl
        · obtain ⟨_, _, _, _, _, rfl⟩ := hY
          have hq1 := hsh q.1 (List.of_mem_zip hq).1
          have hmt := mt_len q.1
          have C3 : S_moved ([nrow q.1].map .dat) fun r' _ => r' = .new ((mt q.1).map encM) := ⟨q.1, rfl, hq1, rfl⟩
          have T2 := shaped_rows ((mt q.1).map fun z => z.2)
          rw [List.map_map] at T2
          refine BR.is (bv_in hr (bv_v 7 rfl) (br_lc2 (L := mt q.1) (enc := encM) (sp1 := fun q => .bool q.1) (sp2 := fun q => nrow q.2) (f := fun q => nrow q.2) sc23.nd (bn23_1 _) (pi_list pe_can) (gv_list (br_give (br_own C_moved_there (hr.mono (by decide)) (by rfl) (ba_cons (bv_v 4 rfl) ba_nil) C3))) (fun z _ Y hY => ?_) (by rw [sizeLine_eq]; omega) (fun z _ Y hY => ?_)) rfl rfl (shaped_nrow _) T2) (by rw [in_moves]; rfl)
          · obtain ⟨_, _, _, _, _, rfl⟩ := hY
            exact bg_tup rfl (pgs2 (pg_name (i := 5) sc23.nd rfl (.inl rfl)) (pg_name (i := 6) sc23.nd rfl (.inl rfl))) rfl
          · obtain ⟨_, _, _, _, _, rfl⟩ := hY
            exact (bv_v 6 rfl)
        · show some _ = some _
          rw [List.map_map]
          rfl
        · rw [all_bools]
          exact hΦ
end
end K75
set_option Elab.async false
set_option autoImplicit false
set_option linter.all false
set_option maxRecDepth 100000
set_option maxHeartbeats 2000000
/-! K8: the purse. -/
namespace K75
open PySem PySem.Spec PyProof.Rows L2 Bv

/-- a purse that g draws may still be asked of -/
def Pur (g : Nat) (p : List PyData) : Prop := ∃ a b c d : Int, p = [.int a, .int b, .int c, .int d] ∧ 0 ≤ a ∧ a < 10 ^ 480 ∧ 0 ≤ b ∧ b < 2147483629 ∧ 0 ≤ c ∧ c + g ≤ 2 ^ 40 ∧ 0 ≤ d ∧ d < 2 ^ 24
theorem Pur.less {g g' : Nat} {p : List PyData} (h : Pur g p) (l : g' ≤ g) : Pur g' p := by
  obtain ⟨a, b, c, d, e, h1, h2, h3, h4, h5, h6, h7⟩ := h
  exact ⟨a, b, c, d, e, h1, h2, h3, h4, h5, by omega, h7⟩
theorem atI0 (a b c d : PyData) : L2.atI [a, b, c, d] 0 = some a := rfl
theorem atI1 (a b c d : PyData) : L2.atI [a, b, c, d] 1 = some b := rfl
theorem atI2 (a b c d : PyData) : L2.atI [a, b, c, d] 2 = some c := rfl
theorem atI3 (a b c d : PyData) : L2.atI [a, b, c, d] 3 = some d := rfl
section
variable {P : Program} {w : World} {K : PySem.W.Frag} {mg : Str → Option Value} {base : Heap} {k : Nat} {f : Addr} {fd : FuncData}
/-! ### _law_mixed -/
def S_mixed : Sb := fun es Φ => ∃ s c d : Int, es = [.dat (.int s), .dat (.int c), .dat (.int d)] ∧ (0 ≤ s ∧ s < 2 ^ 32 ∧ 0 ≤ c ∧ c ≤ 2 ^ 41 ∧ 0 ≤ d ∧ d < 2 ^ 24) ∧ ∀ r : Int, 0 ≤ r → r < 2147483587 → Φ (.dat (.int r)) es
theorem ok_mixed (F : Fun K "_law_mixed" "_law_mixed" (top 26) f fd) (m_int : mg "int" = none) : FnOk P w K mg base CX0 1 f fd ["seed", "spin", "at"] (toSp K S_mixed) := by
  refine fn_ok [] F sc26 (fun es Φ ⟨_, _, _, e, _⟩ => by subst e; rfl) (fun es Φ ⟨_, _, _, e, _⟩ => by subst e; exact own_of rfl) (fun cdv A outer s0 H E hr es Φ ⟨s, c, d, e, ⟨h1, h2, h3, h4, h5, h6⟩, hΦ⟩ => ?_)
  subst e
  have m1 : CMulX s 69069 := cmul_small (by omega) (by omega) (by omega) (by omega)
  have m2 : CMulX 104729 c := cmul_small (by omega) (by omega) (by omega) (by omega)
  have m3 : CMulX (104729 * c) c := cmul_small (by omega) (by omega) (by omega) (by omega)
  have m4 : CMulX 7919 d := cmul_small (by omega) (by omega) (by omega) (by omega)
  have p1 : (0 : Int) < 2147483647 := by decide
  have p2 : (0 : Int) < 2147483629 := by decide
  have p3 : (0 : Int) < 2147483587 := by decide
  refine sv_asg (i := 3) sc26.nd rfl (.inl rfl) List.not_mem_nil (bv_add (bv_mulX (bv_v 0 rfl) bv_int m1) (bv_mulX (bv_mulX bv_int (bv_v 1 rfl) m2) (bv_v 1 rfl) m3)) ?_
  refine sv_asg (i := 3) sc26.nd rfl (.inl rfl) List.not_mem_nil (bv_mod (bv_toInt (by rfl) m_int (bv_add (bv_add (bv_v 3 rfl) (bv_mulX bv_int (bv_v 2 rfl) m4)) (bv_v 1 rfl))) bv_int p1) ?_
  generalize hx : (s * 69069 + 104729 * c * c + 7919 * d + c) % 2147483647 = x
  have x1 : 0 ≤ x := by omega
  have x2 : x < 2147483647 := by omega
  have m5 : CMulX x x := cmul_small (by omega) (by omega) (by omega) (by omega)
  refine sv_asg (i := 3) sc26.nd rfl (.inl rfl) List.not_mem_nil (bv_mod (bv_toInt (by rfl) m_int (bv_add (bv_mulX (bv_v 3 rfl) (bv_v 3 rfl) m5) bv_int)) bv_int p2) ?_
  generalize hy : (x * x + 40503) % 2147483629 = y
  have y1 : 0 ≤ y := by omega
  have y2 : y < 2147483629 := by omega
  have m6 : CMulX y 48271 := cmul_small (by omega) (by omega) (by omega) (by omega)
  exact sv_ret (BR.ev (bv_mod (bv_toInt (by rfl) m_int (bv_mulX (bv_v 3 rfl) bv_int m6)) bv_int p3) ⟨_, rfl, hΦ _ (by omega) (by omega)⟩)
/-! ### _law_draw -/
def S_draw : Sb := fun es Φ => ∃ (g : Nat) (p : List PyData) (m : Nat), es = [.own p, .dat (.int m)] ∧ Pur (g + 1) p ∧ 1 ≤ m ∧ m < 2 ^ 27 ∧ ∀ (r : Nat) (p' : List PyData), r < m → Pur g p' → Φ (.dat (.int r)) [.own p', .dat (.int m)]
theorem bits_small {m : Nat} (h : m < 2 ^ 27) : ((Builtin.Int.intBits (m : Int) : Nat) : Int) / 28 = 0 := by
  have h1 : Builtin.Int.intBits (m : Int) ≤ 27 := PySem.intBits_le_iff.mpr (by simpa using h)
  omega
theorem ok_draw (F : Fun K "_law_draw" "_law_draw" (top 27) f fd) (C_mixed : Calls P w K mg base 1 "_law_mixed" S_mixed) (m_int : mg "int" = none) (m_range : mg "range" = none) : FnOk P w K mg base CX0 2 f fd ["purse", "many"] (toSp K S_draw) := by
  refine fn_ok [0] F sc27 (fun es Φ ⟨_, _, _, e, _⟩ => by subst e; rfl) (fun es Φ ⟨_, _, _, e, _⟩ => by subst e; exact own_of rfl) (fun cdv A outer s0 H E hr es Φ ⟨g, p, m, e, hp, h1, h2, hΦ⟩ => ?_)
  subst e
  obtain ⟨a, b, c, d, rfl, a1, a2, b1, b2, c1, c2, d1, d2⟩ := hp
  have g0 := atI0 (.int a) (.int b) (.int c) (.int d)
  have g1 := atI1 (.int a) (.int b) (.int c) (.int d)
  have g2 := atI2 (.int a) (.int b) (.int c) (.int d)
  have p1 : (0 : Int) < (m : Int) := by omega
  refine sv_when (bt_gt (bv_ix (br_o 0 rfl) bv_int rfl g0) bv_int) (fun z => ?_) (fun z => ?_)
  · refine sv_asg (i := 2) sc27.nd rfl (.inl rfl) (by decide) (bv_mod (bv_toInt (by rfl) m_int (bv_ix (br_o 0 rfl) bv_int rfl g0)) (bv_v 1 rfl) p1) ?_
    have dv : CDivW a (m : Int) := ⟨p1, by
      have : ((m : Int)).natAbs = m := by omega
      rw [this]
      have := Nat.log2_lt (n := m) (k := 27) (by omega)
      have := this.mpr h2
      omega⟩
    refine sv_setItem (i := 0) (k := 0) (j := 0) rfl (.inl rfl) rfl (bv_fdiv (bv_ix (br_o 0 rfl) bv_int rfl g0) (bv_v 1 rfl) dv) bv_int rfl trivial ?_
    refine sv_ret (BR.ev (bv_v 2 rfl) ⟨_, rfl, ?_⟩)
    have e1 : (a % (m : Int)) = ((a % (m : Int)).toNat : Int) := by
      have := Int.emod_nonneg a (show (m : Int) ≠ 0 by omega)
      omega
    have h := hΦ (a % (m : Int)).toNat [.int (a / m), .int b, .int c, .int d] (by have := Int.emod_lt_of_pos a p1; omega) ⟨a / m, b, c, d, rfl, Int.ediv_nonneg a1 (by omega), Int.lt_of_le_of_lt (Int.ediv_le_self _ a1) a2, b1, b2, c1, by omega, d1, d2⟩
    rw [← e1] at h
    exact h
  · refine sv_asg (i := 3) sc27.nd rfl (.inl rfl) (by decide) bv_int ?_
    have dv : CDivW ((Builtin.Int.intBits (m : Int) : Nat) : Int) 28 := ⟨by decide, by decide⟩
    have hb := bits_small h2
    refine sv_forR (i := 4) (n := 1) (fun q Γ1 => (q = 0 ∧ ∃ t4, Γ1 = [.own [.int a, .int b, .int c, .int d], .dat (.int m), .no, .dat (.int 0), t4]) ∨ (q = 1 ∧ ∃ (x : Int) (t4 : Ent), 0 ≤ x ∧ Γ1 = [.own [.int a, .int b, .int (c + 1), .int d], .dat (.int m), .no, .dat (.int x), t4])) sc27.nd (pg_name sc27.nd rfl (.inl rfl)) (by decide) PassesOwn.never m_range (bv_add bv_int (bv_fdiv (bv_bits (bv_v 1 rfl)) bv_int dv)) (by rw [hb]; rfl) (by rw [hb]; decide) (.inl ⟨rfl, _, rfl⟩) ?_ ?_
    · rintro q Γ1 hq (⟨rfl, t4, rfl⟩ | ⟨rfl, _⟩)
      · refine sv_setItem (i := 0) (k := 2) (j := 2) rfl (.inl rfl) rfl (bv_add (bv_ix (br_o 0 rfl) bv_int rfl g2) bv_int) bv_int rfl trivial ?_
        have k1 := atI1 (.int a) (.int b) (.int (c + 1)) (.int d)
        have k2 := atI2 (.int a) (.int b) (.int (c + 1)) (.int d)
        have k3 := atI3 (.int a) (.int b) (.int (c + 1)) (.int d)
        have m0 : CMulX 0 2147483587 := cmul_small (by omega) (by omega) (by omega) (by omega)
        refine sv_asgE (i := 3) sc27.nd rfl (.inl rfl) (by decide) (ev_add (BR.ev (bv_mulX (bv_v 3 rfl) bv_int m0) ⟨_, rfl, ev_own C_mixed (hr.mono (by decide)) (by rfl) (BA.eva (ba_cons (bv_ix (br_o 0 rfl) bv_int rfl k1) (ba_cons (bv_ix (br_o 0 rfl) bv_int rfl k2) (ba_cons (bv_ix (br_o 0 rfl) bv_int rfl k3) ba_nil))) ⟨(show ([] : List Nat).Nodup from List.nodup_nil), b, c + 1, d, rfl, ⟨b1, by omega, by omega, by omega, d1, d2⟩, fun r r1 r2 => ⟨_, rfl, sv_nil (.inr ⟨rfl, 0 * 2147483587 + r, _, by omega, rfl⟩)⟩⟩)⟩))
      · omega
    · rintro Γ1 (⟨h0, _⟩ | ⟨_, x, t4, x1, rfl⟩)
      · cases h0
      · refine sv_ret (BR.ev (bv_mod (bv_toInt (by rfl) m_int (bv_v 3 rfl)) (bv_v 1 rfl) p1) ⟨_, rfl, ?_⟩)
        have e1 : (x % (m : Int)) = ((x % (m : Int)).toNat : Int) := by
          have := Int.emod_nonneg x (show (m : Int) ≠ 0 by omega)
          omega
        have h := hΦ (x % (m : Int)).toNat [.int a, .int b, .int (c + 1), .int d] (by have := Int.emod_lt_of_pos x p1; omega) ⟨a, b, c + 1, d, rfl, a1, a2, b1, b2, by omega, by omega, d1, d2⟩
        rw [← e1] at h
        exact h
/-! ### _law_one_of -/
def S_one_of : Sb := fun es Φ => ∃ (g : Nat) (p : List PyData) (ds : List PyData), es = [.own p, .dat (.list ds)] ∧ Pur (g + 1) p ∧ ds ≠ [] ∧ ds.length < 2 ^ 27 ∧ ∀ (r : Nat) (d : PyData) (p' : List PyData), ds[r]? = some d → Pur g p' → Φ (.dat d) [.own p', .dat (.list ds)]
theorem ok_one_of (F : Fun K "_law_one_of" "_law_one_of" (top 29) f fd) (C_draw : Calls P w K mg base 2 "_law_draw" S_draw) (m_len : mg "len" = none) : FnOk P w K mg base CX0 3 f fd ["purse", "some"] (toSp K S_one_of) := by
  refine fn_ok [0] F sc29 (fun es Φ ⟨_, _, _, e, _⟩ => by subst e; rfl) (fun es Φ ⟨_, _, _, e, _⟩ => by subst e; exact own_of rfl) (fun cdv A outer s0 H E hr es Φ ⟨g, p, ds, e, hp, h1, h2, hΦ⟩ => ?_)
  subst e
  have hlen : 1 ≤ ds.length := by
    cases ds with
    | nil => exact absurd rfl h1
    | cons _ _ => simp
  refine sv_ret (ev_ix (bv_v 1 rfl) (ev_own C_draw (hr.mono (by decide)) (by rfl) (eva_cons (BR.ev (br_o 0 rfl) (BA.eva (ba_cons (bv_len (by rfl) m_len (bv_v 1 rfl) rfl) ba_nil) ⟨fun i h => by cases h; trivial, (show ([0] : List Nat).Nodup from by decide), g, p, ds.length, rfl, hp, hlen, h2, fun r p' hr' hp' => ?_⟩)))))
  have hd : ds[r]? = some ds[r] := List.getElem?_eq_getElem hr'
  exact ⟨(r : Int), ds[r], rfl, atI_nat hd, _, rfl, hΦ r _ p' hd hp'⟩
end
end K75
set_option Elab.async false
set_option autoImplicit false
set_option linter.all false
set_option maxRecDepth 100000
set_option maxHeartbeats 2000000
/-! K9: the law's own rows and moves. -/
namespace K75
open PySem PySem.Spec PyProof.Rows L2 Bv

theorem cut_mid {α : Type} (xs : List α) (a b : Nat) {i j : Int} (hi : i = (a : Int)) (hj : j = (b : Int)) : cutL xs (some i) (some j) = (xs.drop a).take (b - a) := by
  subst hi hj
  unfold cutL
  rw [HT.sIx_nat, HT.sIx_nat]
  by_cases h : a ≤ xs.length
  · rw [Nat.min_eq_left h]
    by_cases h2 : b ≤ xs.length
    · rw [Nat.min_eq_left h2]
    · rw [Nat.min_eq_right (by omega)]
      rw [List.take_of_length_le (by rw [List.length_drop]; exact Nat.le_refl _), List.take_of_length_le (by rw [List.length_drop]; omega)]
  · have e1 : min a xs.length = xs.length := by omega
    rw [e1, List.drop_of_length_le (Nat.le_refl _), List.drop_of_length_le (show xs.length ≤ a by omega)]
    simp
def threeL (r : List Nat) (k : Nat) : List (List Nat) := if (decide ((r.drop k).take 1 = (r.drop (k + 2)).take 1) && nearB (r.getD k 0) (r.getD (k + 1) 0)) = true then [braid r k] else []
def lmN (r : List Nat) (n : Nat) : List (Bool × List Nat) := (List.range n).flatMap fun k => (swapAt r k).map (fun l => (false, l)) ++ (threeL r k).map fun l => (true, l)
/-- the moves, as the law lists them -/
def lm (r : List Nat) : List (Bool × List Nat) := lmN r (r.length - 1)
def encL (q : Bool × List Nat) : PyData := .list [.int (if q.1 then 1 else 0), nrow q.2]
theorem lmN_succ (r : List Nat) (n : Nat) : lmN r (n + 1) = lmN r n ++ ((swapAt r n).map (fun l => (false, l)) ++ (threeL r n).map fun l => (true, l)) := by
  unfold lmN
  rw [List.range_succ, List.flatMap_append]
  simp
theorem lmN_len (r : List Nat) (n : Nat) : (lmN r n).length ≤ 2 * n := by
  induction n with
  | zero => simp [lmN]
  | succ n ih =>
    rw [lmN_succ, List.length_append, List.length_append, List.length_map, List.length_map]
    have h1 : (swapAt r n).length ≤ 1 := by unfold swapAt; split <;> simp
    have h2 : (threeL r n).length ≤ 1 := by unfold threeL; split <;> simp
    omega
theorem filter_no {α : Type} (L : List α) : L.filter (fun _ => false) = [] := by
  induction L with
  | nil => rfl
  | cons x L ih => rw [List.filter_cons, if_neg Bool.false_ne_true, ih]
section
variable {P : Program} {w : World} {K : PySem.W.Frag} {mg : Str → Option Value} {base : Heap} {k : Nat} {f : Addr} {fd : FuncData}
/-! ### _law_exchanged -/
theorem ok_lexch (F : Fun K "_law_exchanged" "_law_exchanged" (top 31) f fd) : FnOk P w K mg base CX0 1 f fd ["order", "at"] (toSp K S_exchanged) := by
  refine fn_ok [] F sc31 (fun es Φ ⟨o, k, e, _⟩ => by subst e; rfl) (fun es Φ ⟨o, k, e, _⟩ => by subst e; exact own_of rfl) (fun cdv A outer s H E hr es Φ ⟨o, k, e, hk, hl, hΦ⟩ => ?_)
  subst e
  have h1 : L2.atI (nums o) ((k : Int) + 1) = some (.int (o.getD (k + 1) 0 : Nat)) := at_n (k + 1) rfl hk
  have h2 : L2.atI (nums o) (k : Int) = some (.int (o.getD k 0 : Nat)) := at_n k rfl (by omega)
  have e1 : (cutL (nums o) none (some (k : Int)) ++ [PyData.int (o.getD (k + 1) 0 : Nat), PyData.int (o.getD k 0 : Nat)]) ++ cutL (nums o) (some ((k : Int) + 2)) none = nums (exch o k) := by
    rw [cut_to _ k rfl, cut_from _ (k + 2) (i := (k : Int) + 2) (by omega)]
    unfold exch nums
    simp [List.map_append, List.map_take, List.map_drop]
  have hz1 : (cutL (nums o) none (some (k : Int))).length + [PyData.int (o.getD (k + 1) 0 : Nat), PyData.int (o.getD k 0 : Nat)].length ≤ sizeLine := by
    have := congrArg List.length e1
    rw [List.length_append, List.length_append, List.length_map, exch_len hk] at this
    rw [sizeLine_eq]
    omega
  have hz2 : (cutL (nums o) none (some (k : Int)) ++ [PyData.int (o.getD (k + 1) 0 : Nat), PyData.int (o.getD k 0 : Nat)]).length + (cutL (nums o) (some ((k : Int) + 2)) none).length ≤ sizeLine := by
    have := congrArg List.length e1
    rw [List.length_append, List.length_map, exch_len hk] at this
    rw [sizeLine_eq]
    omega
  exact sv_ret (BR.ev (BR.is (r2 := .new (nums (exch o k))) (br_cat (br_cat (br_slice (bv_v 0 rfl) rfl bo_none (bo_some (bv_v 1 rfl))) (br_lst (ba_cons (bv_ix (bv_v 0 rfl) (bv_add (bv_v 1 rfl) bv_int) rfl h1) (ba_cons (bv_ix (bv_v 0 rfl) (bv_v 1 rfl) rfl h2) ba_nil)) (by first | exact Nat.le_of_ble_eq_true rfl | decide | assumption | (simp [sizeLine_eq]; omega))) rfl rfl hz1) (br_slice (bv_v 0 rfl) rfl (bo_some (bv_add (bv_v 1 rfl) bv_int)) bo_none) rfl rfl hz2) (by rw [e1])) ⟨_, rfl, hΦ⟩)
/-! ### _law_is_row -/
theorem isA_int (i : Int) : isA "int" (.int i) = true := by
  show (kitB "int" "int").getD false = true
  decide +kernel
theorem isA_boolI (i : Int) : isA "bool" (.int i) = false := by
  show (kitB "int" "bool").getD false = false
  decide +kernel
theorem ok_lis_row (F : Fun K "_law_is_row" "_law_is_row" (top 32) f fd) (C_lexch : Calls P w K mg base 1 "_law_exchanged" S_exchanged) (m_isinstance : mg "isinstance" = none) (m_list : mg "list" = none) (m_int : mg "int" = none) (m_bool : mg "bool" = none) (m_len : mg "len" = none) (m_range : mg "range" = none) :
    FnOk P w K mg base CX0 2 f fd ["many", "value"] (toSp K S_is_row) := by
  refine fn_ok [] F sc32 (fun es Φ ⟨_, _, e, _⟩ => by subst e; rfl) (fun es Φ ⟨_, _, e, _⟩ => by subst e; exact own_of rfl) (fun cdv A outer s H E hr es Φ ⟨n, x, e, hn, hn2, hx, hΦ⟩ => ?_)
  subst e
  cases x with
  | none =>
    refine sv_when (bw_t (bw_or (l := false) (bt_not (bt_val (bv_isi (tn := "list") (by rfl) m_isinstance (by rfl) m_list (by decide +kernel) (bv_v 1 rfl) rfl (by decide +kernel)))) (fun c => ?_))) (fun _ => sv_ret (BR.ev bv_bl ⟨_, rfl, hΦ⟩)) (fun c => ?_)
    · rw [show isA "list" (item none) = false from isA_none] at c
      cases c
    · rw [show isA "list" (item none) = false from isA_none] at c
      cases c
  | some ns =>
    have hns := hx ns rfl
    have h1 : CMulX (n : Int) ((n : Int) - 1) := cmul_small (by omega) (by omega) (by omega) (by omega)
    have h2 : CDivW ((n : Int) * ((n : Int) - 1)) 2 := ⟨by decide, by decide⟩
    have e1 : (!isA "list" (item (some ns))) = false := by rw [show isA "list" (item (some ns)) = true from isA_list _]; rfl
    have e2 : PyData.eqv (.int ((ns.map fun n => PyData.int (n : Nat)).length : Nat)) (.int ((n : Int) * ((n : Int) - 1) / 2)) = (ns.length == n * (n - 1) / 2) := by
      rw [List.length_map, show ((n : Int) * ((n : Int) - 1) / 2) = ((n * (n - 1) / 2 : Nat) : Int) by rw [Int.natCast_ediv, Int.natCast_mul, Int.natCast_sub hn]; rfl, eqv_nn]
      rfl
    have er : isRow n ns = ((ns.length == n * (n - 1) / 2) && ((ns.all fun k => decide (k + 1 < n)) && runs (List.range n) ns)) := by
      unfold isRow below
      rw [Bool.and_assoc]
    refine sv_when (BT.is (d := !(ns.length == n * (n - 1) / 2)) (bw_t (bw_or (bt_not (bt_val (bv_isi (tn := "list") (by rfl) m_isinstance (by rfl) m_list (by decide +kernel) (bv_v 1 rfl) rfl (by decide +kernel)))) (fun _ => bw_or (bt_ne hr (bv_len (by rfl) m_len (bv_v 1 rfl) rfl) (bv_fdiv (bv_mulX (bv_v 0 rfl) (bv_sub (bv_v 0 rfl) bv_int) h1) bv_int h2) rfl rfl (by first | exact shaped_nrow _ | rfl | assumption) (by first | exact shaped_nrow _ | rfl | assumption)) (fun _ => bw_or1 (bt_ne hr (br_lc1f (L := ns) (enc := fun n => .int (n : Nat)) (keep := fun _ => false) (f := fun n => .int (n : Nat)) sc32.nd bk32_0 (pi_list pe_can) (gv_list (bv_v 1 rfl)) (fun Y hY => ?_) (by rw [sizeLine_eq]; omega) (fun m _ Y hY => ?_) (fun m _ hk => by cases hk)) (br_lst ba_nil (by first | exact Nat.le_of_ble_eq_true rfl | decide | assumption | (simp [sizeLine_eq]; omega))) rfl rfl (by rw [filter_no]; rfl) rfl))))) (by rw [e1, e2, filter_no, Bool.false_or]; cases (ns.length == n * (n - 1) / 2) <;> rfl)) (fun c => ?_) (fun c => ?_)
    · obtain ⟨_, _, _, _, _, rfl⟩ := hY
      exact pg_name (i := 2) sc32.nd rfl (.inl rfl)
    · obtain ⟨_, _, _, _, _, rfl⟩ := hY
      refine BT.is (bw_t (bw_or (bt_not (bt_val (bv_isi (tn := "int") (by rfl) m_isinstance (by rfl) m_int (by decide +kernel) (bv_v 2 rfl) rfl (by decide +kernel)))) (fun c1 => (bw_or1 (bt_val (bv_isi (tn := "bool") (by rfl) m_isinstance (by rfl) m_bool (by decide +kernel) (bv_v 2 rfl) rfl (by decide +kernel))))))) ?_
      rw [isA_int, isA_boolI]
      rfl
    · have e3 : isRowO n (some ns) = false := by
        show isRow n ns = false
        rw [er]
        cases h : (ns.length == n * (n - 1) / 2)
        · rfl
        · rw [h] at c; cases c
      rw [e3] at hΦ
      exact sv_ret (BR.ev bv_bl ⟨_, rfl, hΦ⟩)
    · have c' : (ns.length == n * (n - 1) / 2) = true := by cases h : (ns.length == n * (n - 1) / 2); (rw [h] at c; cases c); rfl
      have h1 : RgOk 0 (n : Int) := RgOk.of_le (by omega) (by omega) (by omega) (by omega)
      refine sv_asg (i := 3) sc32.nd rfl (.inl rfl) List.not_mem_nil (br_give (br_listRg1 (by rfl) (by rfl) m_list (by rfl) m_range (bv_v 0 rfl) h1)) ?_
      refine sv_for (L := ns) (enc := fun n => .int (n : Nat)) (is := [2]) (sp := fun n => [.int (n : Nat)]) PassesOwn.never rfl (pi_list pe_can) (gv_list (bv_v 1 rfl)) (fun _ _ => List.not_mem_nil) (fun m _ => bg_name (pg_name sc32.nd rfl (.inl rfl)))
        (fun pre Γ1 => ∃ (o : List Nat) (t : Ent), Γ1 = [.dat (.int n), .dat (nrow ns), t, .dat (nrow o)] ∧ o.length = n ∧ ∀ post, ns = pre ++ post → isRow n ns = ((post.all fun k => decide (k + 1 < n)) && runs o post)) ?_ ?_ ?_
      · refine ⟨List.range n, .no, rfl, List.length_range, fun post e => ?_⟩
        rw [er, c', Bool.true_and]
        rw [show ns = post from e]
      · rintro pre m post Γ1 e ⟨o, t, rfl, ho, hrun⟩
        have hrun' := hrun (m :: post) e
        have step : runs o (m :: post) = (decide (o.getD m 0 ≤ o.getD (m + 1) 0) && runs (exch o m) post) := rfl
        rw [List.all_cons, step] at hrun'
        by_cases hm : m + 1 < n
        · have g1 : L2.atI (nums o) (m : Int) = some (.int (o.getD m 0 : Nat)) := at_n m rfl (by omega)
          have g2 : L2.atI (nums o) ((m : Int) + 1) = some (.int (o.getD (m + 1) 0 : Nat)) := at_n (m + 1) rfl (by omega)
          refine sv_when (bw_t (bw_or (bt_lt (bv_v 2 rfl) bv_int) (fun c1 => (bw_or (bt_gt (bv_v 2 rfl) (bv_sub (bv_v 0 rfl) bv_int)) (fun c2 => (bw_or1 (bt_gt (bv_ix (bv_v 3 rfl) (bv_v 2 rfl) rfl g1) (bv_ix (bv_v 3 rfl) (bv_add (bv_v 2 rfl) bv_int) rfl g2)))))))) (fun c => ?_) (fun c => ?_)
          · refine sv_ret (BR.ev bv_bl ⟨_, rfl, ?_⟩)
            have c2 : ¬ o.getD m 0 ≤ o.getD (m + 1) 0 := by
              simp only [Bool.or_eq_true, decide_eq_true_eq] at c
              omega
            have e2 : isRowO n (some ns) = false := by
              show isRow n ns = false
              rw [hrun', decide_eq_false c2, Bool.false_and, Bool.and_false]
            rw [e2] at hΦ
            exact hΦ
          · have c2 : o.getD m 0 ≤ o.getD (m + 1) 0 := by
              simp only [Bool.or_eq_false_iff, decide_eq_false_iff_not] at c
              omega
            have C2 : S_exchanged ([nrow o, PyData.int (m : Nat)].map .dat) fun r' _ => r' = .new (nums (exch o m)) := ⟨o, m, rfl, by omega, by omega, rfl⟩
            refine sv_asg (i := 3) sc32.nd rfl (.inl rfl) List.not_mem_nil (br_give (br_own C_lexch (hr.mono (by decide)) (by rfl) (ba_cons (bv_v 3 rfl) (ba_cons (bv_v 2 rfl) ba_nil)) C2)) (sv_nil ?_)
            refine ⟨exch o m, _, rfl, by rw [exch_len (by omega), ho], fun post' e' => ?_⟩
            have ep : post' = post := by
              rw [e] at e'
              have : pre ++ m :: post = pre ++ (m :: post') := by rw [e', List.append_assoc]; rfl
              exact (List.cons.inj (List.append_cancel_left this)).2.symm
            rw [ep, hrun', decide_eq_true hm, decide_eq_true c2, Bool.true_and, Bool.true_and]
        · refine sv_when (bw_t (bw_or (bt_lt (bv_v 2 rfl) bv_int) (fun _ => bw_or (l := false) (bt_gt (bv_v 2 rfl) (bv_sub (bv_v 0 rfl) bv_int)) (fun c => ?_)))) (fun _ => ?_) (fun c => ?_)
          · have := of_decide_eq_false c
            omega
          · refine sv_ret (BR.ev bv_bl ⟨_, rfl, ?_⟩)
            have e2 : isRowO n (some ns) = false := by
              show isRow n ns = false
              rw [hrun', decide_eq_false hm, Bool.false_and, Bool.false_and]
            rw [e2] at hΦ
            exact hΦ
          · simp only [Bool.or_eq_false_iff, decide_eq_false_iff_not] at c
            omega
      · rintro Γ1 ⟨o, t, rfl, ho, hrun⟩
        refine sv_ret (BR.ev bv_bl ⟨_, rfl, ?_⟩)
        have e2 : isRowO n (some ns) = true := by
          show isRow n ns = true
          rw [hrun [] (by rw [List.append_nil])]
          rfl
        rw [e2] at hΦ
        exact hΦ
end
end K75
set_option Elab.async false
set_option autoImplicit false
set_option linter.all false
set_option maxRecDepth 100000
set_option maxHeartbeats 2000000
/-! K10: the law's own moves. -/
namespace K75
open PySem PySem.Spec PyProof.Rows L2 Bv

theorem cut_nums (r : List Nat) (a b : Nat) {i j : Int} (hi : i = (a : Int)) (hj : j = (b : Int)) : cutL (nums r) (some i) (some j) = nums ((r.drop a).take (b - a)) := by
  rw [cut_mid _ a b hi hj]
  unfold nums
  rw [List.map_take, List.map_drop]
section
variable {P : Program} {w : World} {K : PySem.W.Frag} {mg : Str → Option Value} {base : Heap} {k : Nat} {f : Addr} {fd : FuncData}
/-! ### _law_moved -/
def S_lmoved : Sb := fun es Φ => ∃ (r : List Nat), es = [.dat (nrow r)] ∧ r.length ≤ 1000 ∧ Φ (.new ((lm r).map encL)) es
theorem ok_lmoved (F : Fun K "_law_moved" "_law_moved" (top 34) f fd) (m_range : mg "range" = none) (m_len : mg "len" = none) (m_abs : mg "abs" = none) : FnOk P w K mg base CX0 1 f fd ["row"] (toSp K S_lmoved) := by
  refine fn_ok [] F sc34 (fun es Φ ⟨r, e, _⟩ => by subst e; rfl) (fun es Φ ⟨r, e, _⟩ => by subst e; exact own_of rfl) (fun cdv A outer s H E hr es Φ ⟨r, e, hl, hΦ⟩ => ?_)
  subst e
  have hlen : (nums r).length = r.length := List.length_map ..
  refine sv_asg (i := 1) sc34.nd rfl (.inl rfl) List.not_mem_nil (br_lst ba_nil (by first | exact Nat.le_of_ble_eq_true rfl | decide | assumption | (simp [sizeLine_eq]; omega))) ?_
  refine sv_forR (i := 2) (n := r.length - 1) (fun m Γ1 => ∃ t, Γ1 = [.dat (nrow r), .own ((lmN r m).map encL), t]) sc34.nd (pg_name sc34.nd rfl (.inl rfl)) List.not_mem_nil PassesOwn.never m_range (bv_sub (bv_len (by rfl) m_len (bv_v 0 rfl) rfl) bv_int) (by rw [hlen]; omega) (by rw [hlen]; omega) ⟨_, rfl⟩ ?_ ?_
  · rintro m Γ1 hm ⟨t, rfl⟩
    have g1 : L2.atI (nums r) (m : Int) = some (.int (r.getD m 0 : Nat)) := at_n m rfl (by omega)
    have g2 : L2.atI (nums r) ((m : Int) + 1) = some (.int (r.getD (m + 1) 0 : Nat)) := at_n (m + 1) rfl (by omega)
    have hzf : ((lmN r m).map encL).length + 2 < sizeLine := by
      have := lmN_len r m
      rw [List.length_map, sizeLine_eq]
      omega
    -- the swap
    have second : ∀ (ln : List (List Nat)), ln = swapAt r m → SV (cxOf CX0 P w K mg base N34 "_law_moved" (defScope (top 34)) f cdv A outer s H E).nox [] ((defBody (top 34)).getD 1 (.Pass ⟨0, 0, 0, 0⟩) |> fun st => match st with | .For _ _ b _ _ => b.drop 1 | _ => []) [.dat (nrow r), .own ((lmN r m).map encL ++ ln.map fun l => encL (false, l)), .dat (.int (m : Nat))]
        { nx := fun Γ1 => ∃ t, Γ1 = [.dat (nrow r), .own ((lmN r (m + 1)).map encL), t], ct := fun Γ1 => ∃ t, Γ1 = [.dat (nrow r), .own ((lmN r (m + 1)).map encL), t], bk := fun Γ2 => SV (cxOf CX0 P w K mg base N34 "_law_moved" (defScope (top 34)) f cdv A outer s H E).nox [] ((defBody (top 34)).drop 2) Γ2 { nx := fun Γ' => Φ (.dat .none) (outs [.dat (nrow r)] Γ'), rt := fun q Γ' => ∃ r', retOf [.dat (nrow r)] Γ' q = some r' ∧ Φ r' (outs [.dat (nrow r)] Γ') }, rt := fun q Γ' => ∃ r', retOf [.dat (nrow r)] Γ' q = some r' ∧ Φ r' (outs [.dat (nrow r)] Γ') } := by
      intro ln hln
      have hls : ln.length ≤ 1 := by rw [hln]; unfold swapAt; split <;> simp
      have s1 : cutL (nums r) (some (m : Int)) (some ((m : Int) + 1)) = nums ((r.drop m).take 1) := by rw [cut_nums r m (m + 1) rfl (by omega), Nat.add_sub_cancel_left]
      have s2 : cutL (nums r) (some ((m : Int) + 2)) (some ((m : Int) + 3)) = nums ((r.drop (m + 2)).take 1) := by rw [cut_nums r (m + 2) (m + 3) (by omega) (by omega), show m + 3 - (m + 2) = 1 by omega]
      have T1 : SeqAt.shaped (.list (cutL (nums r) (some (m : Int)) (some ((m : Int) + 1)))) = true := by rw [s1]; exact shaped_nrow _
      have T2 : SeqAt.shaped (.list (cutL (nums r) (some ((m : Int) + 2)) (some ((m : Int) + 3)))) = true := by rw [s2]; exact shaped_nrow _
      refine sv_when (BT.is (d := decide ((r.drop m).take 1 = (r.drop (m + 2)).take 1) && nearB (r.getD m 0) (r.getD (m + 1) 0)) (bw_t (bw_and (bt_eq hr (br_slice (bv_v 0 rfl) rfl (bo_some (bv_v 2 rfl)) (bo_some (bv_add (bv_v 2 rfl) bv_int))) (br_slice (bv_v 0 rfl) rfl (bo_some (bv_add (bv_v 2 rfl) bv_int)) (bo_some (bv_add (bv_v 2 rfl) bv_int))) rfl rfl T1 T2) (fun _ => bw_and1 (bt_eq hr (bv_abs (by rfl) m_abs (bv_sub (bv_ix (bv_v 0 rfl) (bv_v 2 rfl) rfl g1) (bv_ix (bv_v 0 rfl) (bv_add (bv_v 2 rfl) bv_int) rfl g2))) bv_int rfl rfl (by first | exact shaped_nrow _ | rfl | assumption) (by first | exact shaped_nrow _ | rfl | assumption))))) (by rw [s1, s2, eqv_nrow, near_abs])) (fun c => ?_) (fun c => ?_)
      · have hm2 : m + 2 < r.length := by
          have c1 := of_decide_eq_true (Bool.and_eq_true_iff.mp c).1
          have := congrArg List.length c1
          rw [List.length_take, List.length_take, List.length_drop, List.length_drop] at this
          omega
        have e1 : (cutL (nums r) none (some (m : Int)) ++ [PyData.int (r.getD (m + 1) 0 : Nat), PyData.int (r.getD m 0 : Nat), PyData.int (r.getD (m + 1) 0 : Nat)]) ++ cutL (nums r) (some ((m : Int) + 3)) none = nums (braid r m) := by
          rw [cut_to _ m rfl, cut_from _ (m + 3) (i := (m : Int) + 3) (by omega)]
          unfold braid nums
          simp [List.map_append, List.map_take, List.map_drop]
        have hz2 : (cutL (nums r) none (some (m : Int)) ++ [PyData.int (r.getD (m + 1) 0 : Nat), PyData.int (r.getD m 0 : Nat), PyData.int (r.getD (m + 1) 0 : Nat)]).length + (cutL (nums r) (some ((m : Int) + 3)) none).length ≤ sizeLine := by
          have := congrArg List.length e1
          rw [List.length_append, List.length_map, braid_len hm2] at this
          rw [sizeLine_eq]
          omega
        have hz1 : (cutL (nums r) none (some (m : Int))).length + [PyData.int (r.getD (m + 1) 0 : Nat), PyData.int (r.getD m 0 : Nat), PyData.int (r.getD (m + 1) 0 : Nat)].length ≤ sizeLine := by
          have := hz2
          rw [List.length_append] at this
          omega
        refine sv_expr (ev_append (i := 1) rfl (.inl rfl) rfl (BR.ev (br_give (br_lst (ba_cons bv_int (ba_cons (br_give (br_cat (br_cat (br_slice (bv_v 0 rfl) rfl bo_none (bo_some (bv_v 2 rfl))) (br_lst (ba_cons (bv_ix (bv_v 0 rfl) (bv_add (bv_v 2 rfl) bv_int) rfl g2) (ba_cons (bv_ix (bv_v 0 rfl) (bv_v 2 rfl) rfl g1) (ba_cons (bv_ix (bv_v 0 rfl) (bv_add (bv_v 2 rfl) bv_int) rfl g2) ba_nil))) (by first | exact Nat.le_of_ble_eq_true rfl | decide | assumption | (simp [sizeLine_eq]; omega))) rfl rfl hz1) (br_slice (bv_v 0 rfl) rfl (bo_some (bv_add (bv_v 2 rfl) bv_int)) bo_none) rfl rfl hz2)) ba_nil)) (by first | exact Nat.le_of_ble_eq_true rfl | decide | assumption | (simp [sizeLine_eq]; omega)))) ⟨_, _, rfl, rfl, by simp only [List.length_append, List.length_map] at hzf ⊢; omega, sv_nil (sv_nil ⟨.dat (.int (m : Nat)), ?_⟩)⟩))
        rw [e1, lmN_succ, ← hln]
        have : threeL r m = [braid r m] := if_pos c
        rw [this]
        simp only [List.map_append, List.map_map, List.append_assoc]
        rfl
      · have : threeL r m = [] := if_neg (by rw [c]; exact Bool.false_ne_true)
        refine sv_nil ⟨.dat (.int (m : Nat)), ?_⟩
        rw [lmN_succ, this, ← hln]
        simp only [List.map_append, List.map_map, List.map_nil, List.append_nil]
        rfl
    refine sv_when (bt_gt (bv_abs (by rfl) m_abs (bv_sub (bv_ix (bv_v 0 rfl) (bv_v 2 rfl) rfl g1) (bv_ix (bv_v 0 rfl) (bv_add (bv_v 2 rfl) bv_int) rfl g2))) bv_int) (fun c => ?_) (fun c => ?_)
    · have c' : farB (r.getD m 0) (r.getD (m + 1) 0) = true := by rw [← far_abs]; exact c
      have e1 : (cutL (nums r) none (some (m : Int)) ++ [PyData.int (r.getD (m + 1) 0 : Nat), PyData.int (r.getD m 0 : Nat)]) ++ cutL (nums r) (some ((m : Int) + 2)) none = nums (exch r m) := by
        rw [cut_to _ m rfl, cut_from _ (m + 2) (i := (m : Int) + 2) (by omega)]
        unfold exch nums
        simp [List.map_append, List.map_take, List.map_drop]
      have hz2 : (cutL (nums r) none (some (m : Int)) ++ [PyData.int (r.getD (m + 1) 0 : Nat), PyData.int (r.getD m 0 : Nat)]).length + (cutL (nums r) (some ((m : Int) + 2)) none).length ≤ sizeLine := by
        have := congrArg List.length e1
        rw [List.length_append, List.length_map, exch_len (by omega)] at this
        rw [sizeLine_eq]
        omega
      have hz1 : (cutL (nums r) none (some (m : Int))).length + [PyData.int (r.getD (m + 1) 0 : Nat), PyData.int (r.getD m 0 : Nat)].length ≤ sizeLine := by
        have := hz2
        rw [List.length_append] at this
        omega
      refine sv_expr (ev_append (i := 1) rfl (.inl rfl) rfl (BR.ev (br_give (br_lst (ba_cons bv_int (ba_cons (br_give (br_cat (br_cat (br_slice (bv_v 0 rfl) rfl bo_none (bo_some (bv_v 2 rfl))) (br_lst (ba_cons (bv_ix (bv_v 0 rfl) (bv_add (bv_v 2 rfl) bv_int) rfl g2) (ba_cons (bv_ix (bv_v 0 rfl) (bv_v 2 rfl) rfl g1) ba_nil)) (by first | exact Nat.le_of_ble_eq_true rfl | decide | assumption | (simp [sizeLine_eq]; omega))) rfl rfl hz1) (br_slice (bv_v 0 rfl) rfl (bo_some (bv_add (bv_v 2 rfl) bv_int)) bo_none) rfl rfl hz2)) ba_nil)) (by first | exact Nat.le_of_ble_eq_true rfl | decide | assumption | (simp [sizeLine_eq]; omega)))) ⟨_, _, rfl, rfl, by omega, sv_nil ?_⟩))
      have h2 := second [exch r m] (if_pos c').symm
      rw [e1]
      exact h2
    · have c' : ¬ farB (r.getD m 0) (r.getD (m + 1) 0) = true := by rw [← far_abs, show _ = false from c]; exact Bool.false_ne_true
      have h2 := second [] (if_neg c').symm
      rw [List.map_nil, List.append_nil] at h2
      exact h2
  · rintro Γ1 ⟨t, rfl⟩
    exact sv_ret (BR.ev (br_o 1 rfl) ⟨_, rfl, hΦ⟩)
end
end K75
set_option Elab.async false
set_option autoImplicit false
set_option linter.all false
set_option maxRecDepth 100000
set_option maxHeartbeats 2000000
/-! K11: the law's own judgement of a row of moves, and its cost. -/
namespace K75
open PySem PySem.Spec PyProof.Rows L2 Bv

/-! ### both lists of moves hold the same -/
theorem tk1 {r : List Nat} {k : Nat} (h : k < r.length) : (r.drop k).take 1 = [r.getD k 0] := by
  rw [List.drop_eq_getElem_cons h, List.getD_eq_getElem?_getD, List.getElem?_eq_getElem h]
  rfl
theorem three_same {r : List Nat} {k : Nat} (h : k + 2 < r.length) : threeL r k = threeAt r k := by
  unfold threeL threeAt
  have e1 : (r.drop k).take 1 = [r.getD k 0] := tk1 (by omega)
  have e2 : (r.drop (k + 2)).take 1 = [r.getD (k + 2) 0] := tk1 h
  rw [e1, e2]
  have : decide ([r.getD k 0] = [r.getD (k + 2) 0]) = decide (r.getD (k + 2) 0 = r.getD k 0) := by
    apply decide_eq_decide.mpr
    constructor
    · intro z; exact (List.cons.inj z).1.symm
    · intro z; rw [z]
  rw [this]
theorem three_no {r : List Nat} {k : Nat} (h1 : k < r.length) (h : ¬ k + 2 < r.length) : threeL r k = [] := by
  unfold threeL
  have e1 : (r.drop k).take 1 = [r.getD k 0] := tk1 (by omega)
  have e2 : (r.drop (k + 2)).take 1 = [] := by
    rw [List.drop_of_length_le (by omega)]
    rfl
  rw [e1, e2]
  rfl
theorem mem_mt {r : List Nat} {q : Bool × List Nat} : q ∈ mt r ↔ (q.1 = false ∧ ∃ k, k + 1 < r.length ∧ q.2 ∈ swapAt r k) ∨ (q.1 = true ∧ ∃ k, k + 2 < r.length ∧ q.2 ∈ threeAt r k) := by
  unfold mt mt1 mt2
  rw [List.mem_append, List.mem_flatMap, List.mem_flatMap]
  constructor
  · rintro (⟨k, hk, h⟩ | ⟨k, hk, h⟩)
    · obtain ⟨l, hl, e⟩ := List.mem_map.mp h
      subst e
      exact .inl ⟨rfl, k, by have := List.mem_range.mp hk; omega, hl⟩
    · obtain ⟨l, hl, e⟩ := List.mem_map.mp h
      subst e
      exact .inr ⟨rfl, k, by have := List.mem_range.mp hk; omega, hl⟩
  · obtain ⟨b, l⟩ := q
    rintro (⟨e, k, hk, h⟩ | ⟨e, k, hk, h⟩)
    · cases e
      exact .inl ⟨k, List.mem_range.mpr (by omega), List.mem_map.mpr ⟨l, h, rfl⟩⟩
    · cases e
      exact .inr ⟨k, List.mem_range.mpr (by omega), List.mem_map.mpr ⟨l, h, rfl⟩⟩
theorem mem_lm {r : List Nat} {q : Bool × List Nat} : q ∈ lm r ↔ q ∈ mt r := by
  rw [mem_mt]
  unfold lm lmN
  rw [List.mem_flatMap]
  constructor
  · rintro ⟨k, hk, h⟩
    have hk' := List.mem_range.mp hk
    rcases List.mem_append.mp h with h | h
    · obtain ⟨l, hl, e⟩ := List.mem_map.mp h
      subst e
      exact .inl ⟨rfl, k, by omega, hl⟩
    · obtain ⟨l, hl, e⟩ := List.mem_map.mp h
      subst e
      by_cases h2 : k + 2 < r.length
      · rw [three_same h2] at hl
        exact .inr ⟨rfl, k, h2, hl⟩
      · rw [three_no (by omega) h2] at hl
        cases hl
  · obtain ⟨b, l⟩ := q
    rintro (⟨e, k, hk, h⟩ | ⟨e, k, hk, h⟩)
    · cases e
      exact ⟨k, List.mem_range.mpr (by omega), List.mem_append_left _ (List.mem_map.mpr ⟨l, h, rfl⟩)⟩
    · cases e
      exact ⟨k, List.mem_range.mpr (by omega), List.mem_append_right _ (List.mem_map.mpr ⟨l, by rw [three_same hk]; exact h, rfl⟩)⟩
theorem lm_len (r : List Nat) : (lm r).length ≤ 2 * r.length := by
  have := lmN_len r (r.length - 1)
  unfold lm
  omega
theorem step_same (r late : List Nat) : ((lm r).any fun q => decide (q.2 = late)) = stepIn r late := by
  unfold stepIn
  rw [Bool.eq_iff_iff, List.any_eq_true, List.any_eq_true]
  constructor
  · rintro ⟨q, h1, h2⟩
    exact ⟨q, mem_lm.mp h1, h2⟩
  · rintro ⟨q, h1, h2⟩
    exact ⟨q, mem_lm.mpr h1, h2⟩
theorem zip_range (L : List (List Nat)) : L.zip (L.drop 1) = (List.range (L.length - 1)).map fun i => (L.getD i [], L.getD (i + 1) []) := by
  apply List.ext_getElem?
  intro i
  rw [List.getElem?_map]
  by_cases h : i < L.length - 1
  · rw [List.getElem?_range h, List.getElem?_zip_eq_some.mpr (⟨List.getElem?_eq_getElem (by omega), by rw [List.getElem?_drop, List.getElem?_eq_getElem (by omega)]⟩ : L[i]? = some (L[i], L[1 + i]'(by omega)).1 ∧ (L.drop 1)[i]? = some (L[i], L[1 + i]'(by omega)).2)]
    show some (L[i], L[1 + i]'(by omega)) = some (L.getD i [], L.getD (i + 1) [])
    rw [List.getD_eq_getElem?_getD, List.getD_eq_getElem?_getD, List.getElem?_eq_getElem (show i < L.length by omega), List.getElem?_eq_getElem (show i + 1 < L.length by omega)]
    simp [Nat.add_comm]
  · rw [List.getElem?_eq_none (by rw [List.length_zip, List.length_drop]; omega), List.getElem?_eq_none (by rw [List.length_range]; omega)]
    rfl
theorem steps_range (L : List (List Nat)) : ((List.range (L.length - 1)).filter fun i => !(stepIn (L.getD i []) (L.getD (i + 1) []))).isEmpty = steps L := by
  unfold steps
  rw [zip_range, List.all_map]
  generalize List.range (L.length - 1) = R
  induction R with
  | nil => rfl
  | cons i R ih =>
    rw [List.all_cons]
    show _ = (stepIn (L.getD i []) (L.getD (i + 1) []) && _)
    cases h : stepIn (L.getD i []) (L.getD (i + 1) []) with
    | false =>
      rw [List.filter_cons, if_pos (by rw [h]; rfl)]
      rfl
    | true =>
      rw [List.filter_cons, if_neg (by rw [h]; decide), ih]
      rfl
theorem filt_all (n : Nat) (xs : List Item) : ((xs.filter fun x => !isRowO n x).map item).isEmpty = xs.all (isRowO n) := by
  induction xs with
  | nil => rfl
  | cons x xs ih =>
    rw [List.all_cons]
    cases h : isRowO n x with
    | false =>
      rw [List.filter_cons, if_pos (by rw [h]; rfl)]
      rfl
    | true =>
      rw [List.filter_cons, if_neg (by rw [h]; decide), ih]
      rfl
theorem at_row {L : List (List Nat)} {i : Int} (j : Nat) (hi : i = (j : Int)) (h : j < L.length) : L2.atI (L.map nrow) i = some (nrow (L.getD j [])) := by
  subst hi
  refine atI_nat ?_
  rw [List.getElem?_map, List.getElem?_eq_getElem h, List.getD_eq_getElem?_getD, List.getElem?_eq_getElem h]
  rfl
theorem mem_getD {L : List (List Nat)} {j : Nat} (h : j < L.length) : L.getD j [] ∈ L := by
  rw [List.getD_eq_getElem?_getD, List.getElem?_eq_getElem h]
  exact List.getElem_mem h
section
variable {P : Program} {w : World} {K : PySem.W.Frag} {mg : Str → Option Value} {base : Heap} {k : Nat} {f : Addr} {fd : FuncData}
/-! ### _law_is_moves -/
def S_lis_moves : Sb := fun es Φ => ∃ (n : Nat) (one other : List Nat) (d : PyData), es = [.dat (.int n), .dat (nrow one), .dat (nrow other), .dat d] ∧ (1 ≤ n ∧ n ≤ 1000) ∧
  ((isA "list" d = false ∧ Φ (.dat (.bool false)) es) ∨ ∃ xs : List Item, d = items xs ∧ xs.length ≤ 1000000 ∧ (∀ x ∈ xs, short x) ∧ Φ (.dat (.bool (pathOk n one other xs))) es)
theorem ok_lis_moves (F : Fun K "_law_is_moves" "_law_is_moves" (top 35) f fd) (C_lis_row : Calls P w K mg base 2 "_law_is_row" S_is_row) (C_lmoved : Calls P w K mg base 1 "_law_moved" S_lmoved) (m_isinstance : mg "isinstance" = none) (m_list : mg "list" = none) (m_range : mg "range" = none) (m_len : mg "len" = none) :
    FnOk P w K mg base CX0 3 f fd ["many", "one", "other", "value"] (toSp K S_lis_moves) := by
  refine fn_ok [] F sc35 (fun es Φ ⟨_, _, _, _, e, _⟩ => by subst e; rfl) (fun es Φ ⟨_, _, _, _, e, _⟩ => by subst e; exact own_of rfl) (fun cdv A outer s H E hr es Φ ⟨n, one, other, d, e, ⟨h1, h2⟩, hc⟩ => ?_)
  subst e
  rcases hc with ⟨hd, hΦ⟩ | ⟨xs, rfl, hx, hs, hΦ⟩
  · refine sv_when (bw_t (bw_or (l := false) (bt_not (bt_val (bv_isi (tn := "list") (by rfl) m_isinstance (by rfl) m_list (by decide +kernel) (bv_v 3 rfl) rfl (by decide +kernel)))) (fun c => ?_))) (fun _ => sv_ret (BR.ev bv_bl ⟨_, rfl, hΦ⟩)) (fun c => ?_)
    · rw [hd] at c; cases c
    · rw [hd] at c; cases c
  · have eA : isA "list" (items xs) = true := isA_list _
    have e0 : PyData.eqv (items xs) (.list []) = xs.isEmpty := by unfold items; rw [eqv_nil]; cases xs <;> rfl
    have T1 := shaped_items xs
    have T2 := shaped_items (xs.filter fun x => !isRowO n x)
    have ef : PyData.eqv (items (xs.filter fun x => !isRowO n x)) (.list []) = xs.all (isRowO n) := by
      unfold items
      rw [eqv_nil]
      exact filt_all n xs
    refine sv_when (BT.is (d := xs.isEmpty || !xs.all (isRowO n)) (bw_t (bw_or (bt_not (bt_val (bv_isi (tn := "list") (by rfl) m_isinstance (by rfl) m_list (by decide +kernel) (bv_v 3 rfl) rfl (by decide +kernel)))) (fun _ => bw_or (bt_eq hr (bv_v 3 rfl) (br_lst ba_nil (by first | exact Nat.le_of_ble_eq_true rfl | decide | assumption | (simp [sizeLine_eq]; omega))) rfl rfl T1 rfl) (fun _ => bw_or1 (bt_ne hr
      (br_lc1f (L := xs) (enc := item) (keep := fun x => !isRowO n x) (f := item) sc35.nd bk35_0 (pi_list pe_can) (gv_list (bv_v 3 rfl)) (fun Y hY => ?_) (by rw [sizeLine_eq]; omega) (fun x hx Y hY => ?_) (fun x hx _ Y hY => ?_)) (br_lst ba_nil (by first | exact Nat.le_of_ble_eq_true rfl | decide | assumption | (simp [sizeLine_eq]; omega))) rfl rfl T2 rfl))))) (by rw [eA, e0, show PyData.list (List.map item (xs.filter fun x => !isRowO n x)) = items (xs.filter fun x => !isRowO n x) from rfl, ef]; rfl)) (fun c => ?_) (fun c => ?_)
    · obtain ⟨_, _, _, _, _, rfl⟩ := hY
      exact pg_name (i := 4) sc35.nd rfl (.inl rfl)
    · obtain ⟨_, _, _, _, _, rfl⟩ := hY
      have C2 : S_is_row ([PyData.int (n : Nat), item x].map .dat) fun r' _ => r' = .dat (.bool (isRowO n x)) := ⟨n, x, rfl, h1, h2, hs x hx, rfl⟩
      exact bt_not (bt_val (br_own C_lis_row (hr.mono (by decide)) (by rfl) (ba_cons (bv_v 0 rfl) (ba_cons (bv_v 4 rfl) ba_nil)) C2))
    · obtain ⟨_, _, _, _, _, rfl⟩ := hY
      exact (bv_v 4 rfl)
    · have e1 : pathOk n one other xs = false := by
        unfold pathOk
        cases h1 : xs.isEmpty
        · rw [h1, Bool.false_or] at c
          have : xs.all (isRowO n) = false := by cases h : xs.all (isRowO n) <;> simp_all
          rw [this]; rfl
        · rfl
      rw [e1] at hΦ
      exact sv_ret (BR.ev bv_bl ⟨_, rfl, hΦ⟩)
    · have c1 : xs.isEmpty = false := by cases h : xs.isEmpty <;> simp_all
      have c2 : xs.all (isRowO n) = true := by cases h : xs.all (isRowO n) <;> simp_all
      obtain ⟨L, rfl, hL⟩ := all_rows c2
      have eL : items (L.map some) = .list (L.map nrow) := by
        unfold items
        rw [List.map_map]
        rfl
      have hlen : L.length ≤ 1000000 := by rw [List.length_map] at hx; exact hx
      have hsh : ∀ r ∈ L, r.length ≤ 1000 := fun r hr => hs (some r) (List.mem_map.mpr ⟨r, hr, rfl⟩) r rfl
      have ep : pathOk n one other (L.map some) = (decide (L.head? = some one) && decide (L.getLast? = some other) && steps L) := by
        unfold pathOk
        rw [c1, c2, filt_some]
        rfl
      rw [ep] at hΦ
      rw [eL] at hΦ ⊢
      clear ep c2 T1 T2 ef e0 eA hs hx
      obtain ⟨r0, rs, rfl⟩ : ∃ r0 rs, L = r0 :: rs := by
        cases L with
        | nil => cases c1
        | cons a b => exact ⟨a, b, rfl⟩
      obtain ⟨rl, hrl⟩ : ∃ rl, (r0 :: rs).getLast? = some rl := by
        cases h : (r0 :: rs).getLast? with
        | none => simp at h
        | some x => exact ⟨x, rfl⟩
      have g0 : L2.atI ((r0 :: rs).map nrow) 0 = some (nrow r0) := atI_nat (j := 0) rfl
      have g1 : L2.atI ((r0 :: rs).map nrow) (-1) = some (nrow rl) := by
        obtain ⟨ys, e⟩ := List.getLast?_eq_some_iff.mp hrl
        rw [e, List.map_append]
        exact atI_last _ _
      rw [show (r0 :: rs).head? = some r0 from rfl, hrl] at hΦ
      refine sv_when (BT.is (d := !(decide (r0 = one) && decide (rl = other))) (bw_t (bw_or (bt_ne hr (bv_ix (bv_v 3 rfl) bv_int rfl g0) (bv_v 1 rfl) rfl rfl (shaped_nrow _) (shaped_nrow _)) (fun _ => bw_or1 (bt_ne hr (bv_ix (bv_v 3 rfl) (bv_tC pe_usub1) rfl g1) (bv_v 2 rfl) rfl rfl (shaped_nrow _) (shaped_nrow _))))) (by rw [eqv_nrow, eqv_nrow]; cases decide (r0 = one) <;> cases decide (rl = other) <;> rfl)) (fun c => ?_) (fun c => ?_)
      · have e1 : (decide (some r0 = some one) && decide (some rl = some other) && steps (r0 :: rs)) = false := by
          by_cases a1 : r0 = one
          · by_cases a2 : rl = other
            · rw [decide_eq_true a1, decide_eq_true a2] at c; cases c
            · rw [decide_eq_false (fun z => a2 (Option.some.inj z)), Bool.and_false, Bool.false_and]
          · rw [decide_eq_false (fun z => a1 (Option.some.inj z)), Bool.false_and, Bool.false_and]
        rw [e1] at hΦ
        exact sv_ret (BR.ev bv_bl ⟨_, rfl, hΦ⟩)
      · have e1 : (decide (some r0 = some one) && decide (some rl = some other) && steps (r0 :: rs)) = steps (r0 :: rs) := by
          by_cases a1 : r0 = one
          · by_cases a2 : rl = other
            · rw [decide_eq_true (congrArg some a1), decide_eq_true (congrArg some a2), Bool.true_and, Bool.true_and]
            · rw [decide_eq_true a1, decide_eq_false a2] at c; cases c
          · rw [decide_eq_false a1] at c; cases c
        rw [e1] at hΦ
        have hpos : 1 ≤ (r0 :: rs).length := by simp
        generalize r0 :: rs = L at hΦ hlen hsh hpos ⊢
        have hll : (L.map nrow).length = L.length := List.length_map ..
        have eR : ((List.range (((L.map nrow).length : Nat) - 1 : Int).toNat).map fun i => PyData.int (1 + (i : Nat))) = (List.range (L.length - 1)).map fun i => PyData.int (1 + (i : Nat)) := by
          rw [hll, show ((L.length : Int) - 1).toNat = L.length - 1 by omega]
        have T3 : ∀ M : List Nat, SeqAt.shaped (.list (M.map fun i => PyData.int (1 + (i : Nat)))) = true := fun M => by
          have := shaped_nrow (M.map fun i => 1 + i)
          unfold nrow at this
          rw [List.map_map] at this
          have e : (fun i : Nat => PyData.int (1 + (i : Nat))) = ((fun n : Nat => PyData.int (n : Nat)) ∘ fun i => 1 + i) := by
            funext i
            show PyData.int (1 + (i : Int)) = PyData.int ((1 + i : Nat) : Int)
            congr 1
          rw [e]
          exact this
        refine sv_ret (BR.ev (BR.is (r2 := .dat (.bool (steps L))) (bv_eq hr (br_lc1f (L := List.range (L.length - 1)) (enc := fun i => .int (1 + (i : Nat))) (keep := fun i => !(stepIn (L.getD i []) (L.getD (i + 1) []))) (f := fun i => .int (1 + (i : Nat))) sc35.nd bk35_2 (pi_range2 (by rfl) m_range (pa_cons pe_can (pa_cons pe_can pa_nil))) (eR ▸ gv_range2 (lo := 1) bv_int (bv_len (by rfl) m_len (bv_v 3 rfl) rfl) (by rw [hll]; omega)) (fun Y hY => ?_) (by rw [List.length_range, sizeLine_eq]; omega) (fun i hi Y hY => ?_) (fun i hi _ Y hY => ?_)) (br_lst ba_nil (by first | exact Nat.le_of_ble_eq_true rfl | decide | assumption | (simp [sizeLine_eq]; omega))) rfl rfl (T3 _) rfl) (by rw [eqv_nil, ← steps_range]; cases ((List.range (L.length - 1)).filter fun i => !(stepIn (L.getD i []) (L.getD (i + 1) []))) <;> rfl)) ⟨_, rfl, hΦ⟩)
        · obtain ⟨_, _, _, _, _, rfl⟩ := hY
          exact pg_name (i := 7) sc35.nd rfl (.inl rfl)
        · obtain ⟨_, _, _, _, _, rfl⟩ := hY
          have hi' := List.mem_range.mp hi
          have hq1 := hsh _ (mem_getD (show i < L.length by omega))
          have hlm := lm_len (L.getD i [])
          have k1 : L2.atI (L.map nrow) (1 + (i : Int)) = some (nrow (L.getD (i + 1) [])) := at_row (i + 1) (by omega) (by omega)
          have k2 : L2.atI (L.map nrow) (1 + (i : Int) - 1) = some (nrow (L.getD i [])) := at_row i (by omega) (by omega)
          have C3 : S_lmoved ([nrow (L.getD i [])].map .dat) fun r' _ => r' = .new ((lm (L.getD i [])).map encL) := ⟨_, rfl, hq1, rfl⟩
          have T2 := shaped_rows ((lm (L.getD i [])).map fun z => z.2)
          rw [List.map_map] at T2
          refine BT.is (bt_notIn hr (bv_ix (bv_v 3 rfl) (bv_v 7 rfl) rfl k1) (br_lc2 (L := lm (L.getD i [])) (enc := encL) (sp1 := fun q => .int (if q.1 then 1 else 0)) (sp2 := fun q => nrow q.2) (f := fun q => nrow q.2) sc35.nd (bn35_1 _) (pi_list pe_can) (gv_list (br_give (br_own C_lmoved (hr.mono (by decide)) (by rfl) (ba_cons (bv_ix (bv_v 3 rfl) (bv_sub (bv_v 7 rfl) bv_int) rfl k2) ba_nil) C3))) (fun z _ Y hY => ?_) (by rw [sizeLine_eq]; omega) (fun z _ Y hY => ?_)) rfl rfl (shaped_nrow _) T2) (by rw [in_moves, step_same])
          · obtain ⟨_, _, _, _, _, rfl⟩ := hY
            exact bg_unl rfl (pgs2 (pg_name (i := 5) sc35.nd rfl (.inl rfl)) (pg_name (i := 6) sc35.nd rfl (.inl rfl))) rfl
          · obtain ⟨_, _, _, _, _, rfl⟩ := hY
            exact (bv_v 6 rfl)
        · obtain ⟨_, _, _, _, _, rfl⟩ := hY
          exact (bv_v 7 rfl)
end
end K75
set_option Elab.async false
set_option autoImplicit false
set_option linter.all false
set_option maxRecDepth 100000
set_option maxHeartbeats 2000000
namespace Bv
open PySem PySem.Spec PyProof.Rows L2
section
variable {X : Cx} {Γ : En} {e a b : Expr} {r : Res} {pos : Pos}
/-- for y in range(a, b) -/
theorem sv_forR2 {F : List Nat} {P : Po} {i : Nat} {y : Str} {py p : Pos} {body rest : List Stmt} {n : Nat} {lo ni : Int} {pos2 : Pos} (I : Nat → En → Prop) (hg0 : PG X (.Name y py) (gName i)) (hF : i ∉ F) (hp : PassesOwn (model X.prog X.w) X.A X.env X.xe) (hm : X.mg "range" = none) (ha : BV X a Γ (.int lo)) (hb : BV X b Γ (.int ni)) (hn : (ni - lo).toNat = n) (hbd : -(2 ^ 62) ≤ lo ∧ lo < 2 ^ 62 ∧ -(2 ^ 62) ≤ ni ∧ ni < 2 ^ 62)
    (h0 : I 0 Γ) (hs : ∀ m Γ1, m < n → I m Γ1 → SV X F body (Γ1.set i (.dat (.int (lo + (m : Nat))))) { nx := I (m + 1), ct := I (m + 1), bk := fun Γ2 => SV X F rest Γ2 P, rt := P.rt }) (hd : ∀ Γ1, I n Γ1 → SV X F rest Γ1 P) (hg : Gl X "range" := by rfl) (hc : X.calm = true := by rfl)
    (hst : starEach [a, b] X.env = [(false, eval a X.env), (false, eval b X.env)] := by rfl) (hst2 : starEach [b] X.env = [(false, eval b X.env)] := by rfl) (hst3 : starEach [a, b] X.env = (false, eval a X.env) :: starEach [b] X.env := by rfl) (hst4 : starEach [b] X.env = (false, eval b X.env) :: starEach [] X.env := by rfl) (hfs : ∀ x, foldedSetIterable (.Call (.Name "range" p) [a, b] [] pos2) X.env x = pure x := by intro _; rfl) : SV X F (.For (.Name y py) (.Call (.Name "range" p) [a, b] [] pos2) body [] pos :: rest) Γ P := by
  subst hn
  refine sv_for (L := List.range (ni - lo).toNat) (enc := fun i => .int (lo + (i : Nat))) (is := [i]) (sp := fun m => [.int (lo + (m : Nat))]) hp hc (pi_range2 hg hm (pa_cons (pe_can (e := a)) (pa_cons (pe_can (e := b)) pa_nil hst4) hst3) hst hst2) (gv_range2 ha hb hbd) (fun j hj => by rcases List.mem_singleton.mp hj with rfl; exact hF) (fun m _ => bg_name hg0) (fun pre Γ1 => I pre.length Γ1) h0 (fun pre m post Γ1 e h => ?_) (fun Γ1 h => ?_) hfs
  · obtain ⟨e1, e2⟩ := range_at e
    have el : pre.length = m := by rw [e1, List.length_range]
    rw [el] at h
    rw [show (pre ++ [m]).length = m + 1 by rw [List.length_append, el]; rfl]
    exact hs m Γ1 e2 h
  · rw [List.length_range] at h
    exact hd Γ1 h
end
end Bv
/-! K12: _law_cost. -/
namespace K75
open PySem PySem.Spec PyProof.Rows L2 Bv

def stepCost (r l : List Nat) : Nat := if ((mt r).any fun q => !q.1 && decide (q.2 = l)) = true then 0 else 1
def costTo (L : List (List Nat)) (n : Nat) : Nat := ((List.range n).map fun i => stepCost (L.getD i []) (L.getD (i + 1) [])).sum
def pathCost (L : List (List Nat)) : Nat := costTo L (L.length - 1)
theorem costTo_succ (L : List (List Nat)) (n : Nat) : costTo L (n + 1) = costTo L n + stepCost (L.getD n []) (L.getD (n + 1) []) := by
  unfold costTo
  rw [List.range_succ, List.map_append, List.sum_append]
  simp
theorem steps_at {L : List (List Nat)} (h : steps L = true) {i : Nat} (hi : i + 1 < L.length) : stepIn (L.getD i []) (L.getD (i + 1) []) = true := by
  unfold steps at h
  rw [zip_range, List.all_map] at h
  exact List.all_eq_true.mp h i (List.mem_range.mpr (by omega))
theorem cost_min {r l : List Nat} (h : stepIn r l = true) : ((stepCost r l : Nat) : Int) ∈ ((lm r).filter fun q => decide (q.2 = l)).map (fun q => if q.1 = true then (1 : Int) else 0) ∧ ∀ y, y ∈ ((lm r).filter fun q => decide (q.2 = l)).map (fun q => if q.1 = true then (1 : Int) else 0) → ((stepCost r l : Nat) : Int) ≤ y := by
  unfold stepCost
  cases hz : ((mt r).any fun q => !q.1 && decide (q.2 = l)) with
  | true =>
    rw [if_pos rfl]
    obtain ⟨q, h1, h2⟩ := List.any_eq_true.mp hz
    obtain ⟨h3, h4⟩ := Bool.and_eq_true_iff.mp h2
    refine ⟨List.mem_map.mpr ⟨q, List.mem_filter.mpr ⟨mem_lm.mpr h1, h4⟩, ?_⟩, fun y hy => ?_⟩
    · cases hq : q.1
      · rfl
      · rw [hq] at h3; cases h3
    · obtain ⟨z, _, e⟩ := List.mem_map.mp hy
      rw [← e]
      split <;> decide
  | false =>
    rw [if_neg Bool.false_ne_true]
    obtain ⟨q, h1, h2⟩ := List.any_eq_true.mp h
    have no : ∀ z ∈ mt r, z.2 = l → z.1 = true := fun z hz1 hz2 => by
      cases hq : z.1
      · have : ((mt r).any fun q => !q.1 && decide (q.2 = l)) = true := List.any_eq_true.mpr ⟨z, hz1, by rw [hq, decide_eq_true hz2]; rfl⟩
        rw [this] at hz; cases hz
      · rfl
    refine ⟨List.mem_map.mpr ⟨q, List.mem_filter.mpr ⟨mem_lm.mpr h1, h2⟩, ?_⟩, fun y hy => ?_⟩
    · rw [if_pos (no q h1 (of_decide_eq_true h2))]; rfl
    · obtain ⟨z, hz1, e⟩ := List.mem_map.mp hy
      obtain ⟨hz2, hz3⟩ := List.mem_filter.mp hz1
      rw [← e, if_pos (no z (mem_lm.mp hz2) (of_decide_eq_true hz3))]
      decide
section
variable {P : Program} {w : World} {K : PySem.W.Frag} {mg : Str → Option Value} {base : Heap} {k : Nat} {f : Addr} {fd : FuncData}
def S_cost : Sb := fun es Φ => ∃ L : List (List Nat), es = [.dat (.list (L.map nrow))] ∧ 1 ≤ L.length ∧ L.length ≤ 1000000 ∧ (∀ r ∈ L, r.length ≤ 1000) ∧ steps L = true ∧ Φ (.dat (.int (pathCost L : Nat))) es
theorem ok_cost (F : Fun K "_law_cost" "_law_cost" (top 36) f fd) (C_lmoved : Calls P w K mg base 1 "_law_moved" S_lmoved) (m_range : mg "range" = none) (m_len : mg "len" = none) (m_min : mg "min" = none) : FnOk P w K mg base CX0 2 f fd ["value"] (toSp K S_cost) := by
  refine fn_ok [] F sc36 (fun es Φ ⟨_, e, _⟩ => by subst e; rfl) (fun es Φ ⟨_, e, _⟩ => by subst e; exact own_of rfl) (fun cdv A outer s H E hr es Φ ⟨L, e, hpos, hlen, hsh, hst, hΦ⟩ => ?_)
  subst e
  have hll : (L.map nrow).length = L.length := List.length_map ..
  refine sv_asg (i := 1) sc36.nd rfl (.inl rfl) List.not_mem_nil bv_int ?_
  refine sv_forR2 (i := 2) (n := L.length - 1) (fun m Γ1 => ∃ t3 t4 t5, Γ1 = [.dat (.list (L.map nrow)), .dat (.int (costTo L m : Nat)), t3, t4, t5]) (pg_name sc36.nd rfl (.inr rfl)) List.not_mem_nil PassesOwn.never m_range bv_int (bv_len (by rfl) m_len (bv_v 0 rfl) rfl) (by rw [hll]; omega) (by rw [hll]; omega) ⟨.no, .no, .no, rfl⟩ ?_ ?_
  · rintro m Γ1 hm ⟨t3, t4, t5, rfl⟩
    have hq1 := hsh _ (mem_getD (show m < L.length by omega))
    have hlm := lm_len (L.getD m [])
    have k1 : L2.atI (L.map nrow) (1 + (m : Int)) = some (nrow (L.getD (m + 1) [])) := at_row (m + 1) (by omega) (by omega)
    have k2 : L2.atI (L.map nrow) (1 + (m : Int) - 1) = some (nrow (L.getD m [])) := at_row m (by omega) (by omega)
    have C3 : S_lmoved ([nrow (L.getD m [])].map .dat) fun r' _ => r' = .new ((lm (L.getD m [])).map encL) := ⟨_, rfl, hq1, rfl⟩
    have hst' := steps_at hst (show m + 1 < L.length by omega)
    have hmin := cost_min hst'
    refine sv_asg (i := 1) sc36.nd rfl (.inl rfl) List.not_mem_nil (bv_add (bv_v 1 rfl) (bv_min (ns := ((lm (L.getD m [])).filter fun q => decide (q.2 = L.getD (m + 1) [])).map (fun q => if q.1 = true then (1 : Int) else 0)) (by rfl) (by rfl) m_min
      (br_lc2f (L := lm (L.getD m [])) (enc := encL) (sp1 := fun q => .int (if q.1 then 1 else 0)) (sp2 := fun q => nrow q.2) (keep := fun q => decide (q.2 = L.getD (m + 1) [])) (f := fun q => .int (if q.1 then 1 else 0)) sc36.nd bk36_0 (pi_list pe_can) (gv_list (br_give (br_own C_lmoved (hr.mono (by decide)) (by rfl) (ba_cons (bv_ix (bv_v 0 rfl) (bv_sub (bv_v 2 rfl) bv_int) rfl k2) ba_nil) C3))) (fun z _ Y hY => ?_) (by rw [sizeLine_eq]; omega) (fun z _ Y hY => ?_) (fun z _ _ Y hY => ?_)) ?_ hmin.1 hmin.2)) (sv_nil ⟨.dat (.int (1 + (m : Int))), t4, t5, ?_⟩)
    · obtain ⟨_, _, _, _, _, rfl⟩ := hY
      exact bg_unl rfl (pgs2 (pg_name (i := 3) sc36.nd rfl (.inl rfl)) (pg_name (i := 4) sc36.nd rfl (.inl rfl))) rfl
    · obtain ⟨_, _, _, _, _, rfl⟩ := hY
      exact BT.is (bt_eq hr (bv_v 4 rfl) (bv_ix (bv_v 0 rfl) (bv_v 2 rfl) rfl k1) rfl rfl (by first | exact shaped_nrow _ | rfl | assumption) (by first | exact shaped_nrow _ | rfl | assumption)) (eqv_nrow _ _)
    · obtain ⟨_, _, _, _, _, rfl⟩ := hY
      exact (bv_v 3 rfl)
    · show some _ = some _
      rw [List.map_map]
      rfl
    · rw [costTo_succ]
      show [_, Ent.dat (.int ((costTo L m : Nat) + (stepCost (L.getD m []) (L.getD (m + 1) []) : Nat) : Int)), _, _, _] = _
      rw [Int.natCast_add]
  · rintro Γ1 ⟨t3, t4, t5, rfl⟩
    exact sv_ret (BR.ev (bv_v 1 rfl) ⟨_, rfl, hΦ⟩)
end
end K75
set_option Elab.async false
set_option autoImplicit false
set_option linter.all false
set_option maxRecDepth 100000
set_option maxHeartbeats 2000000
/-! K13: _law_around. -/
namespace K75
open PySem PySem.Spec PyProof.Rows L2 Bv

def encT (ks : List (List Nat)) : List (List Key × PyData) := ks.map fun l => (kR l, .bool true)
def hasK (ks : List (List Nat)) (l : List Nat) : Bool := ks.any fun q => decide (q = l)
theorem encT_any (ks : List (List Nat)) (l : List Nat) : ((encT ks).any fun kv => decide (kv.1 = kR l)) = hasK ks l := by
  unfold encT hasK
  rw [List.any_map]
  congr 1
  funext q
  show decide (kR q = kR l) = decide (q = l)
  apply decide_eq_decide.mpr
  exact ⟨kR_inj, fun h => by rw [h]⟩
theorem encT_has (ks : List (List Nat)) (l : List Nat) : (dget (encT ks) (kR l)).isSome = hasK ks l := by rw [dget_isSome, encT_any]
def addK (ks : List (List Nat)) (l : List Nat) : List (List Nat) := if hasK ks l = true then ks else ks ++ [l]
theorem encT_put (ks : List (List Nat)) (l : List Nat) : dput (encT ks) (kR l) (.bool true) = encT (addK ks l) := by
  unfold dput addK
  rw [encT_any]
  cases h : hasK ks l with
  | false =>
    rw [if_neg Bool.false_ne_true, if_neg Bool.false_ne_true]
    unfold encT
    rw [List.map_append]
    rfl
  | true =>
    rw [if_pos rfl, if_pos rfl]
    unfold encT
    rw [List.map_map]
    apply List.map_congr_left
    intro q _
    show (if kR q = kR l then (kR q, PyData.bool true) else (kR q, PyData.bool true)) = (kR q, PyData.bool true)
    split <;> rfl
/-- the swaps of a row -/
def zero (r : List Nat) : List (List Nat) := ((lm r).filter fun q => !q.1).map fun q => q.2
def threes (r : List Nat) : List (List Nat) := ((lm r).filter fun q => q.1).map fun q => q.2
abbrev StA := List (List Nat) × List (List Nat)
def popped (s : StA) : List Nat := s.2.getLastD []
def aStep (known : List (List Nat)) (s : StA) : StA := if (hasK s.1 (popped s) || hasK known (popped s)) = true then (s.1, s.2.dropLast) else (s.1 ++ [popped s], s.2.dropLast ++ zero (popped s))
structure AOk (rows known : List (List Nat)) (J : StA → Prop) (meas : StA → Nat) : Prop where
  init : J ([], rows)
  step : ∀ s, J s → s.2 ≠ [] → J (aStep known s) ∧ meas (aStep known s) < meas s
  size : ∀ s, J s → s.1.length + 1 < 2 ^ 24 ∧ s.2.length + 4000 < 2 ^ 24
  short : ∀ s, J s → ∀ r ∈ s.2, r.length ≤ 1000
/-- what _law_around may give -/
def AroundOk (rows known : List (List Nat)) (R : List (List Nat) → Prop) : Prop := ∃ J meas, AOk rows known J meas ∧ ∀ s : StA, J s → s.2 = [] → R s.1
theorem cost_test (b : Bool) : PyData.eqv (.int (if b = true then 1 else 0)) (.int 0) = !b := by cases b <;> rfl
theorem cost_test1 (b : Bool) : PyData.eqv (.int (if b = true then 1 else 0)) (.int 1) = b := by cases b <;> rfl
section
variable {P : Program} {w : World} {K : PySem.W.Frag} {mg : Str → Option Value} {base : Heap} {k : Nat} {f : Addr} {fd : FuncData}
def S_around : Sb := fun es Φ => ∃ (rows known : List (List Nat)) (R : List (List Nat) → Prop), es = [.own (rows.map nrow), .dic (encT known)] ∧ AroundOk rows known R ∧ ∀ res, R res → Φ (.new (res.map nrow)) es
theorem ok_around (F : Fun K "_law_around" "_law_around" (top 38) f fd) (C_lmoved : Calls P w K mg base 1 "_law_moved" S_lmoved) (m_list : mg "list" = none) (m_tuple : mg "tuple" = none) : FnOk P w K mg base CX0 2 f fd ["rows", "known"] (toSp K S_around) := by
  refine fn_ok [0, 1] F sc38 (fun es Φ ⟨_, _, _, e, _⟩ => by subst e; rfl) (fun es Φ ⟨_, _, _, e, _⟩ => by subst e; exact own_of rfl) (fun cdv A outer s0 H E hr es Φ ⟨rows, known, R, e, ⟨J, meas, W, hR⟩, hΦ⟩ => ?_)
  subst e
  refine sv_par (i := 2) (j := 3) rfl sc38.nd rfl rfl (by decide) rfl rfl ⟨by decide, by decide⟩ (eva_cons (BR.ev br_newD (eva_cons (BR.ev (br_list (by rfl) m_list (br_o 0 rfl) (.inl rfl)) (eva_nil ⟨fun i h => (nomatch h), fun i h => (nomatch h), _, _, rfl, ⟨rfl, rfl⟩, ?_⟩)))))
  refine sv_while PassesOwn.never (fun m Γ1 => ∃ (st : StA) (t4 t5 t6 : Ent), J st ∧ m = meas st ∧ Γ1 = [.own (rows.map nrow), .dic (encT known), .dic (encT st.1), .own (st.2.map nrow), t4, t5, t6]) (meas ([], rows)) ⟨_, .no, .no, .no, W.init, rfl, rfl⟩ ?_
  rintro m Γ1 ⟨st, t4, t5, t6, hJ, rfl, rfl⟩
  have hsz := W.size _ hJ
  refine ⟨!(st.2.map nrow).isEmpty, BT.is (bt_ne hr (br_o 3 rfl) (br_lst ba_nil (by first | exact Nat.le_of_ble_eq_true rfl | decide | assumption | (simp [sizeLine_eq]; omega))) rfl rfl (shaped_rows st.2) rfl) (by rw [eqv_nil]), fun c => ?_, fun c => ?_⟩
  · have hne : st.2 ≠ [] := fun z => by rw [z] at c; cases c
    have hst := W.step _ hJ hne
    have hlast : st.2 = st.2.dropLast ++ [popped st] := by
      obtain ⟨ys, y, e⟩ : ∃ ys y, st.2 = ys ++ [y] := let ⟨ys, h⟩ := List.getLast?_eq_some_iff.mp (List.getLast?_eq_some_getLast hne); ⟨ys, _, h⟩
      have : popped st = y := by unfold popped; rw [e]; simp
      rw [this, e]
      simp
    have hpop : popped st ∈ st.2 := by rw [hlast]; exact List.mem_append_right _ List.mem_cons_self
    have hsh := W.short _ hJ _ hpop
    have hmap : st.2.map nrow = st.2.dropLast.map nrow ++ [nrow (popped st)] := by
      conv => lhs; rw [hlast]
      rw [List.map_append]
      rfl
    have hdl : (st.2.map nrow).dropLast = st.2.dropLast.map nrow := by rw [hmap]; simp
    have hpl : (st.2.map nrow)[(st.2.map nrow).length - 1]? = some (nrow (popped st)) := by
      rw [hmap]
      simp
    generalize hp : popped st = r at hst hsh hpl hdl hmap hlast hpop
    have ht : aStep known st = if (hasK st.1 r || hasK known r) = true then (st.1, st.2.dropLast) else (st.1 ++ [r], st.2.dropLast ++ zero r) := by unfold aStep; rw [hp]
    refine sv_asgE (i := 4) sc38.nd rfl (.inl rfl) (by decide) (ev_pop (i := 3) rfl (.inl rfl) rfl hpl ?_)
    rw [hdl]
    refine sv_when (BT.is (d := !(hasK st.1 r || hasK known r)) (bw_t (bw_and (bt_dnotIn (hu_of hr) (bv_tupN (l := r) (by rfl) m_tuple (bv_v 4 rfl) rfl) (br_d 2 rfl) rfl) (fun _ => bw_and1 (bt_dnotIn (hu_of hr) (bv_tupN (l := r) (by rfl) m_tuple (bv_v 4 rfl) rfl) (br_d 1 rfl) rfl)))) (by show (!(dget (encT st.1) (kR r)).isSome && !(dget (encT known) (kR r)).isSome) = _; rw [encT_has, encT_has]; cases hasK st.1 r <;> cases hasK known r <;> rfl)) (fun c => ?_) (fun c => ?_)
    · have c' : (hasK st.1 r || hasK known r) = false := by
        cases h : (hasK st.1 r || hasK known r) with
        | false => rfl
        | true => rw [h] at c; cases c
      rw [c', if_neg Bool.false_ne_true] at ht
      rw [ht] at hst
      have h1 : hasK st.1 r = false := by
        cases h : hasK st.1 r with
        | false => rfl
        | true => rw [h] at c'; cases c'
      have hlm := lm_len r
      have C3 : S_lmoved ([nrow r].map .dat) fun r' _ => r' = .new ((lm r).map encL) := ⟨_, rfl, hsh, rfl⟩
      refine sv_dput (i := 2) (hu_of hr) rfl (.inl rfl) rfl bv_bl (bv_tupN (l := r) (by rfl) m_tuple (bv_v 4 rfl) rfl) (by unfold encT; rw [List.length_map, sizeLine_eq]; omega) ?_
      have hfl : ((lm r).filter fun q => !q.1).length ≤ (lm r).length := List.length_filter_le _ _
      have hdll : st.2.dropLast.length ≤ st.2.length := by rw [List.length_dropLast]; omega
      refine sv_asg (i := 3) (r := .new ((st.2.dropLast ++ zero r).map nrow)) sc38.nd rfl (.inl rfl) (by decide) (BR.is (br_cat (br_o 3 rfl) (br_lc2f (L := lm r) (enc := encL) (sp1 := fun q => .int (if q.1 then 1 else 0)) (sp2 := fun q => nrow q.2) (keep := fun q => !q.1) (f := fun q => nrow q.2) sc38.nd bk38_0 (pi_list pe_can) (gv_list (br_give (br_own C_lmoved (hr.mono (by decide)) (by rfl) (ba_cons (bv_v 4 rfl) ba_nil) C3))) (fun z _ Y hY => ?_) (by rw [sizeLine_eq]; omega) (fun z _ Y hY => ?_) (fun z _ _ Y hY => ?_)) rfl rfl (by rw [List.length_map, List.length_map, sizeLine_eq]; omega)) (by unfold zero; rw [List.map_append, List.map_map]; rfl)) (sv_nil (sv_nil ?_))
      · obtain ⟨_, _, _, _, _, rfl⟩ := hY
        exact bg_unl rfl (pgs2 (pg_name (i := 5) sc38.nd rfl (.inl rfl)) (pg_name (i := 6) sc38.nd rfl (.inl rfl))) rfl
      · obtain ⟨_, _, _, _, _, rfl⟩ := hY
        exact BT.is (bt_eq hr (bv_v 5 rfl) bv_int rfl rfl (by first | exact shaped_nrow _ | rfl | assumption) (by first | exact shaped_nrow _ | rfl | assumption)) (cost_test z.1)
      · obtain ⟨_, _, _, _, _, rfl⟩ := hY
        exact (bv_v 6 rfl)
      · refine ⟨meas _, hst.2, _, .dat (nrow r), t5, t6, hst.1, rfl, ?_⟩
        show [_, _, Ent.dic (dput (encT st.1) (kR r) (.bool true)), _, _, _, _] = _
        rw [encT_put]
        unfold addK
        rw [h1, if_neg Bool.false_ne_true]
        rfl
    · have c' : (hasK st.1 r || hasK known r) = true := by
        cases h : (hasK st.1 r || hasK known r) with
        | true => rfl
        | false => rw [h] at c; cases c
      rw [c', if_pos rfl] at ht
      rw [ht] at hst
      exact sv_nil ⟨meas _, hst.2, _, .dat (nrow r), t5, t6, hst.1, rfl, rfl⟩
  · have hne : st.2 = [] := by
      cases h : st.2 with
      | nil => rfl
      | cons a b => rw [h] at c; cases c
    have hres := hΦ _ (hR _ hJ hne)
    refine sv_ret (BR.ev (BR.is (r2 := .new (st.1.map nrow)) (br_keyRows (i := 2) (rows := st.1.map toI) (j := 4) rfl sc38.nd rfl (.inl rfl) rfl (by unfold encT; rw [List.map_map, List.map_map]; rfl) (by rw [List.length_map, sizeLine_eq]; omega) bk38_1 (fun Y hY => ?_) (by show 4 < 7; decide)) (by rw [List.map_map]; congr 1; apply List.map_congr_left; intro l _; exact row_toI l)) ⟨_, rfl, hres⟩)
    obtain ⟨_, _, _, _, _, rfl⟩ := hY
    exact ⟨pg_name (i := 4) sc38.nd rfl (.inl rfl), by rfl, m_list, rfl, .inl rfl⟩
end
end K75
set_option Elab.async false
set_option autoImplicit false
set_option linter.all false
set_option maxRecDepth 100000
set_option maxHeartbeats 2000000
/-! K14: _law_fewest. -/
namespace K75
open PySem PySem.Spec PyProof.Rows L2 Bv

def addAll (ks l : List (List Nat)) : List (List Nat) := l.foldl addK ks
theorem addAll_merge (l : List (List Nat)) : ∀ ks, dmerge (encT ks) (l.map fun r => (toI r, PyData.bool true)) = encT (addAll ks l) := by
  induction l with
  | nil => intro ks; rfl
  | cons r l ih =>
    intro ks
    rw [List.map_cons]
    show dmerge (dput (encT ks) (kR r) (.bool true)) _ = encT (addAll (addK ks r) l)
    rw [encT_put, ih]
theorem addK_len (ks : List (List Nat)) (l : List Nat) : (addK ks l).length ≤ ks.length + 1 := by
  unfold addK
  split
  · omega
  · rw [List.length_append]; exact Nat.le_refl _
theorem addAll_len (l : List (List Nat)) : ∀ ks, (addAll ks l).length ≤ ks.length + l.length := by
  induction l with
  | nil => intro ks; exact Nat.le_refl _
  | cons r l ih =>
    intro ks
    have h1 := ih (addK ks r)
    have h2 := addK_len ks r
    show (addAll (addK ks r) l).length ≤ _
    rw [List.length_cons]
    omega
structure FOk (one other : List Nat) (J : List (List Nat) → Nat → List (List Nat) → Prop) (meas : List (List Nat) → Nat → List (List Nat) → Nat) : Prop where
  init : AroundOk [one] [] fun res => J res 0 (addAll [] res)
  step : ∀ near c found, J near c found → hasK found other = false → AroundOk (near.flatMap threes) found fun res => J res (c + 1) (addAll found res) ∧ meas res (c + 1) (addAll found res) < meas near c found
  size : ∀ near c found, J near c found → near.length < 2 ^ 23 ∧ found.length + 4000 < 2 ^ 23 ∧ (near.flatMap threes).length < 2 ^ 24
  short : ∀ near c found, J near c found → ∀ r ∈ near, r.length ≤ 1000
theorem threes_len (r : List Nat) : (threes r).length ≤ 2 * r.length := by
  unfold threes
  rw [List.length_map]
  have h1 : ((lm r).filter fun q => q.1).length ≤ (lm r).length := List.length_filter_le _ _
  have h2 := lm_len r
  omega
theorem flat_pre {pre post : List (List Nat)} {r : List Nat} : (pre.flatMap threes).length + (threes r).length ≤ ((pre ++ r :: post).flatMap threes).length := by
  rw [List.flatMap_append, List.flatMap_cons, List.length_append, List.length_append]
  omega
section
variable {P : Program} {w : World} {K : PySem.W.Frag} {mg : Str → Option Value} {base : Heap} {k : Nat} {f : Addr} {fd : FuncData}
def S_fewest : Sb := fun es Φ => ∃ (one other : List Nat) (J : List (List Nat) → Nat → List (List Nat) → Prop) (meas : List (List Nat) → Nat → List (List Nat) → Nat), es = [.dat (nrow one), .dat (nrow other)] ∧ FOk one other J meas ∧ ∀ near c found, J near c found → hasK found other = true → Φ (.dat (.int (c : Nat))) es
theorem ok_fewest (F : Fun K "_law_fewest" "_law_fewest" (top 37) f fd) (C_around : Calls P w K mg base 2 "_law_around" S_around) (C_lmoved : Calls P w K mg base 1 "_law_moved" S_lmoved) (m_dict : mg "dict" = none) (m_tuple : mg "tuple" = none) : FnOk P w K mg base CX0 3 f fd ["one", "other"] (toSp K S_fewest) := by
  refine fn_ok [] F sc37 (fun es Φ ⟨_, _, _, _, e, _⟩ => by subst e; rfl) (fun es Φ ⟨_, _, _, _, e, _⟩ => by subst e; exact own_of rfl) (fun cdv A outer s0 H E hr es Φ ⟨one, other, J, meas, e, W, hΦ⟩ => ?_)
  subst e
  have nm : ∀ i : Nat, i ∉ ([] : List Nat) := fun _ => List.not_mem_nil
  have nf : ∀ (is : List Nat), ∀ i ∈ is, i ∉ ([] : List Nat) := fun _ _ _ => List.not_mem_nil
  refine sv_par (i := 2) (j := 3) rfl sc37.nd rfl rfl (by decide) rfl rfl ⟨nm _, nm _⟩ (eva_cons (ev_own C_around (hr.mono (by decide)) (by rfl) (eva_cons (BR.ev (br_lst (ba_cons (bv_v 0 rfl) ba_nil) (Nat.le_of_ble_eq_true rfl)) (eva_cons (BR.ev br_newD (eva_nil ⟨fun i h => (nomatch h), fun i h => (nomatch h), (show ([] : List Nat).Nodup from List.nodup_nil), [one], [], _, rfl, W.init, fun near hJ => ?_⟩)))))))
  refine eva_cons (BR.ev bv_int (eva_nil ⟨fun i h => (nomatch h), fun i h => (nomatch h), _, _, rfl, ⟨rfl, rfl⟩, ?_⟩))
  refine sv_freeze (i := 2) rfl ?_
  have hz := W.size _ _ _ hJ
  refine sv_asg (i := 5) (r := .newD (encT (addAll [] near))) sc37.nd rfl (.inl rfl) (nm _) (BR.is (br_dictT (ps := near.map fun r => (toI r, PyData.bool true)) rfl (hu2 hr) (by rfl) m_dict (br_lc1 (L := near) (enc := nrow) (f := fun l => .tuple [ti (toI l), .bool true]) sc37.nd bk37_0 (pi_list pe_can) (gv_list (bv_v 2 rfl)) (fun Y hY => ?_) (by rw [sizeLine_eq]; omega) (fun l hl Y hY => ?_)) ?_) (by rw [show ([] : List (List Key × PyData)) = encT [] from rfl, addAll_merge])) ?_
  · obtain ⟨_, _, _, _, _, rfl⟩ := hY
    exact pg_name (i := 4) sc37.nd rfl (.inl rfl)
  · obtain ⟨_, _, _, _, _, rfl⟩ := hY
    exact bv_tup (ba_cons (bv_tupN (l := l) (by rfl) m_tuple (bv_v 4 rfl) rfl) (ba_cons bv_bl ba_nil)) (Nat.le_of_ble_eq_true rfl)
  · show some _ = some _
    rw [List.map_map]
    rfl
  refine sv_while PassesOwn.never (fun m Γ1 => ∃ (near : List (List Nat)) (c : Nat) (found : List (List Nat)) (t4 t6 t7 t8 : Ent), J near c found ∧ m = meas near c found ∧ Γ1 = [.dat (nrow one), .dat (nrow other), .dat (.list (near.map nrow)), .dat (.int (c : Nat)), t4, .dic (encT found), t6, t7, t8]) (meas near 0 (addAll [] near)) ⟨near, 0, _, .no, .no, .no, .no, hJ, rfl, rfl⟩ ?_
  clear hz hJ
  rintro m Γ1 ⟨near, c, found, t4, t6, t7, t8, hJ, rfl, rfl⟩
  have hz := W.size _ _ _ hJ
  refine ⟨!(hasK found other), BT.is (bt_dnotIn (hu_of hr) (bv_tupN (l := other) (by rfl) m_tuple (bv_v 1 rfl) rfl) (br_d 5 rfl) rfl) (by show (!(dget (encT found) (kR other)).isSome) = _; rw [encT_has]), fun cc => ?_, fun cc => ?_⟩
  · have hno : hasK found other = false := by
      cases h : hasK found other with
      | false => rfl
      | true => rw [h] at cc; cases cc
    have hst := W.step _ _ _ hJ hno
    refine sv_asg (i := 6) sc37.nd rfl (.inl rfl) (nm _) (br_lst ba_nil (by first | exact Nat.le_of_ble_eq_true rfl | decide | assumption | (simp [sizeLine_eq]; omega))) ?_
    refine sv_for (L := near) (enc := nrow) (is := [4]) (sp := fun r => [nrow r]) PassesOwn.never rfl (pi_list pe_can) (gv_list (bv_v 2 rfl)) (nf _) (fun r _ => bg_name (pg_name sc37.nd rfl (.inl rfl)))
      (fun pre Γ1 => ∃ t4, Γ1 = [.dat (nrow one), .dat (nrow other), .dat (.list (near.map nrow)), .dat (.int (c : Nat)), t4, .dic (encT found), .own ((pre.flatMap threes).map nrow), t7, t8]) ⟨_, rfl⟩ ?_ ?_
    · rintro pre r post Γ1 e ⟨t4, rfl⟩
      have hr1 : r ∈ near := by rw [e]; exact List.mem_append_right _ List.mem_cons_self
      have hsh := W.short _ _ _ hJ r hr1
      have hlm := lm_len r
      have hfl := flat_pre (pre := pre) (post := post) (r := r)
      rw [← e] at hfl
      have C3 : S_lmoved ([nrow r].map .dat) fun r' _ => r' = .new ((lm r).map encL) := ⟨_, rfl, hsh, rfl⟩
      have et : (((lm r).filter fun q => q.1).map fun q => nrow q.2) = (threes r).map nrow := by unfold threes; rw [List.map_map]; rfl
      have ez : (((lm r).filter fun q => q.1).map fun q => nrow q.2).length = (threes r).length := by rw [et, List.length_map]
      refine sv_asg (i := 6) (r := .new (((pre ++ [r]).flatMap threes).map nrow)) sc37.nd rfl (.inl rfl) (nm _) (BR.is (br_cat (br_o 6 rfl) (br_lc2f (L := lm r) (enc := encL) (sp1 := fun q => .int (if q.1 then 1 else 0)) (sp2 := fun q => nrow q.2) (keep := fun q => q.1) (f := fun q => nrow q.2) sc37.nd bk37_1 (pi_list pe_can) (gv_list (br_give (br_own C_lmoved (hr.mono (by decide)) (by rfl) (ba_cons (bv_v 4 rfl) ba_nil) C3))) (fun z _ Y hY => ?_) (by rw [sizeLine_eq]; omega) (fun z _ Y hY => ?_) (fun z _ _ Y hY => ?_)) rfl rfl (by rw [ez, List.length_map, sizeLine_eq]; omega)) (by rw [et, List.flatMap_append, List.map_append, List.flatMap_singleton])) (sv_nil ⟨.dat (nrow r), rfl⟩)
      · obtain ⟨_, _, _, _, _, rfl⟩ := hY
        exact bg_unl rfl (pgs2 (pg_name (i := 7) sc37.nd rfl (.inl rfl)) (pg_name (i := 8) sc37.nd rfl (.inl rfl))) rfl
      · obtain ⟨_, _, _, _, _, rfl⟩ := hY
        exact BT.is (bt_eq hr (bv_v 7 rfl) bv_int rfl rfl (by first | exact shaped_nrow _ | rfl | assumption) (by first | exact shaped_nrow _ | rfl | assumption)) (cost_test1 z.1)
      · obtain ⟨_, _, _, _, _, rfl⟩ := hY
        exact (bv_v 8 rfl)
    · rintro Γ1 ⟨t4, rfl⟩
      refine sv_par (i := 2) (j := 3) rfl sc37.nd rfl rfl (by decide) rfl rfl ⟨nm _, nm _⟩ (eva_cons (ev_own C_around (hr.mono (by decide)) (by rfl) (eva_cons (BR.ev (br_o 6 rfl) (eva_cons (BR.ev (br_d 5 rfl) (eva_nil ⟨fun i h => by cases h; trivial, fun i h => by cases h; trivial, (show ([6, 5] : List Nat).Nodup from by decide), _, found, _, rfl, hst, fun res hres => ?_⟩)))))))
      refine eva_cons (BR.ev (bv_add (bv_v 3 rfl) bv_int) (eva_nil ⟨fun i h => (nomatch h), fun i h => (nomatch h), _, _, rfl, ⟨rfl, rfl⟩, ?_⟩))
      refine sv_freeze (i := 2) rfl ?_
      have hz2 := W.size _ _ _ hres.1
      refine sv_for (L := res) (enc := nrow) (is := [4]) (sp := fun r => [nrow r]) PassesOwn.never rfl (pi_list pe_can) (gv_list (bv_v 2 rfl)) (nf _) (fun r _ => bg_name (pg_name sc37.nd rfl (.inl rfl)))
        (fun pre Γ1 => ∃ t4 t6, Γ1 = [.dat (nrow one), .dat (nrow other), .dat (.list (res.map nrow)), .dat (.int ((c + 1 : Nat) : Int)), t4, .dic (encT (addAll found pre)), t6, t7, t8]) ⟨_, _, rfl⟩ ?_ ?_
      · rintro pre r post Γ1 e ⟨t4, t6, rfl⟩
        have hl := addAll_len pre found
        have hpl : pre.length < res.length := by rw [e]; simp
        refine sv_dput (i := 5) (hu_of hr) rfl (.inl rfl) rfl bv_bl (bv_tupN (l := r) (by rfl) m_tuple (bv_v 4 rfl) rfl) (by unfold encT; rw [List.length_map, sizeLine_eq]; omega) (sv_nil ⟨.dat (nrow r), t6, ?_⟩)
        show [_, _, _, _, _, Ent.dic (dput (encT (addAll found pre)) (kR r) (.bool true)), _, _, _] = _
        rw [encT_put]
        unfold addAll
        rw [List.foldl_append]
        rfl
      · rintro Γ1 ⟨t4, t6, rfl⟩
        exact sv_nil ⟨_, hres.2, res, c + 1, _, t4, t6, t7, t8, hres.1, rfl, rfl⟩
  · have hyes : hasK found other = true := by
      cases h : hasK found other with
      | true => rfl
      | false => rw [h] at cc; cases cc
    exact sv_ret (BR.ev (bv_v 3 rfl) ⟨_, rfl, hΦ _ _ _ hJ hyes⟩)
end
end K75
set_option Elab.async false
set_option autoImplicit false
set_option linter.all false
set_option maxRecDepth 100000
set_option maxHeartbeats 2000000
namespace Bv
open PySem PySem.Spec PyProof.Rows L2
section
variable {X : Cx} {Γ : En} {e a b c : Expr} {r : Res} {pos : Pos} {Φ : Res → En → Prop} {es : List Expr}
theorem ev_if {k : Bool} (h : BT X c Γ k) (h1 : k = true → EV X a Γ Φ) (h2 : k = false → EV X b Γ Φ) : EV X (.IfExp c a b pos) Γ Φ := by
  intro σ B H s Q q
  refine can_of (pe_ifExp (pt_can (e := c)) (pe_can (e := a)) (pe_can (e := b))) ?_
  refine h σ B H s _ fun H1 e1 => ?_
  have p : Pur B H B H1 := .grown s.sub e1
  have go : ∀ {d : Expr}, EV X d Γ Φ → tCan X d σ H1 Q := fun {d} hd => hd σ B H1 (s.pur p) Q fun v r Γ2 B2 H2 o2 g2 hφ => q v r Γ2 B2 H2 ((p.out s).trans o2) (g2.back fun a z => e1.free z) hφ
  cases k with
  | true => exact go (h1 rfl)
  | false => exact go (h2 rfl)
theorem ResRs.dats {K : PySem.W.Frag} {H0 B H : Hp} {σ : L2.St} : ∀ {ds : List PyData} {vs : List V}, ResRs K H0 B H Γ σ (ds.map .dat) vs → RpAll K B ds vs
  | [], _, h => by cases (show _ = [] from h); exact .nil
  | d :: ds, _, ⟨v, ws, e, g, t, _⟩ => by subst e; exact .cons g (ResRs.dats t)
theorem ev_lst (h : EVA X es Γ fun rs Γ1 => ∃ ds : List PyData, rs = ds.map .dat ∧ ds.length ≤ sizeLine ∧ Φ (.new ds) Γ1) : EV X (.List es pos) Γ Φ := by
  intro σ B H s Q q
  refine can_of (pe_lst (pa_can (es := es))) ?_
  refine h σ B H s _ fun vs rs Γ1 B1 H1 o1 g1 ⟨ds, e, hl, hφ⟩ => ?_
  subst e
  have g := ResRs.dats g1
  refine ⟨by rw [← g.len]; exact hl, fun p hp => ?_⟩
  have n1 : Same H1 (upd H1 p (.lst vs)) := same_upd hp
  exact q _ (.new ds) Γ1 B1 _ (o1.trans ((Pur.grown o1.st.sub n1).out o1.st)) ⟨p, vs, rfl, o1.step.dom p hp, o1.st.sub.free hp, upd_same, g⟩ hφ
theorem ev_catD {ds : List PyData} (ha : BV X a Γ (.list ds)) (h : EV X b Γ fun r2 Γ2 => ∃ fs, r2 = .dat (.list fs) ∧ ds.length + fs.length ≤ sizeLine ∧ Φ (.new (ds ++ fs)) Γ2) : EV X (.BinOp a .Add b pos) Γ Φ :=
  ev_op op_cat (BR.ev ha ⟨_, rfl, h.mono fun r2 Γ2 ⟨fs, e, hz, hφ⟩ => ⟨_, .new (ds ++ fs), e, fun σ H0 B H v1 v2 s g1 g2 Q q => by
    obtain ⟨l, xs, rfl, e1, k1⟩ := list_at (ds := ds) s g1 rfl
    obtain ⟨m, ys, rfl, e2, k2⟩ := list_at (ds := fs) s g2 rfl
    refine ⟨l, m, xs, ys, rfl, rfl, e1, e2, by rw [← k1.len, ← k2.len]; exact hz, fun t ht => ?_⟩
    exact q _ B _ (.grown s.sub (same_upd ht)) ⟨t, _, rfl, ht, s.sub.free ht, upd_same, k1.app k2⟩, hφ⟩⟩)
end
end Bv
/-! K15: _law_row, _law_walked. -/
namespace K75
open PySem PySem.Spec PyProof.Rows L2 Bv

def ascents (n : Nat) (o : List Nat) : List Nat := (List.range (n - 1)).filter fun k => decide (o.getD k 0 < o.getD (k + 1) 0)
structure ROk (n B : Nat) (J : List Nat → List Nat → Prop) : Prop where
  init : J (List.range n) []
  step : ∀ o w, J o w → o ≠ (List.range n).reverse → ascents n o ≠ [] ∧ w.length < B ∧ ∀ k ∈ ascents n o, J (exch o k) (w ++ [k])
  size : ∀ o w, J o w → o.length = n ∧ w.length ≤ B
def Walk (r : List Nat) (L : List (List Nat)) : Prop := L.head? = some r ∧ steps L = true ∧ ∀ q ∈ L, q.length = r.length
theorem move_len {r : List Nat} {q : Bool × List Nat} (h : q ∈ mt r) : q.2.length = r.length := by
  rcases mem_mt.mp h with ⟨_, k, hk, hl⟩ | ⟨_, k, hk, hl⟩
  · unfold swapAt at hl
    split at hl
    · rw [List.mem_singleton.mp hl, exch_len hk]
    · cases hl
  · unfold threeAt at hl
    split at hl
    · rw [List.mem_singleton.mp hl, braid_len hk]
    · cases hl
theorem steps_snoc {L : List (List Nat)} {l r : List Nat} (h : steps L = true) (hl : L.getLast? = some l) (hs : stepIn l r = true) : steps (L ++ [r]) = true := by
  obtain ⟨ys, e⟩ := List.getLast?_eq_some_iff.mp hl
  subst e
  unfold steps at h ⊢
  rw [zip_range, List.all_map] at h ⊢
  rw [List.all_eq_true] at h ⊢
  intro i hi
  have hi' := List.mem_range.mp hi
  simp only [List.length_append, List.length_singleton] at hi' h
  by_cases hlt : i < ys.length
  · have h1 := h i (List.mem_range.mpr (by omega))
    have a1 : (ys ++ [l] ++ [r]).getD i [] = (ys ++ [l]).getD i [] := by
      rw [List.getD_eq_getElem?_getD, List.getD_eq_getElem?_getD, List.getElem?_append_left (by simp; omega)]
    have a2 : (ys ++ [l] ++ [r]).getD (i + 1) [] = (ys ++ [l]).getD (i + 1) [] := by
      rw [List.getD_eq_getElem?_getD, List.getD_eq_getElem?_getD, List.getElem?_append_left (by simp; omega)]
    show stepIn ((ys ++ [l] ++ [r]).getD i []) ((ys ++ [l] ++ [r]).getD (i + 1) []) = true
    rw [a1, a2]
    exact h1
  · have e : i = ys.length := by omega
    subst e
    have a1 : (ys ++ [l] ++ [r]).getD ys.length [] = l := by rw [List.getD_eq_getElem?_getD]; simp
    have a2 : (ys ++ [l] ++ [r]).getD (ys.length + 1) [] = r := by rw [List.getD_eq_getElem?_getD]; simp
    show stepIn ((ys ++ [l] ++ [r]).getD ys.length []) ((ys ++ [l] ++ [r]).getD (ys.length + 1) []) = true
    rw [a1, a2]
    exact hs
section
variable {P : Program} {w : World} {K : PySem.W.Frag} {mg : Str → Option Value} {base : Heap} {k : Nat} {f : Addr} {fd : FuncData}
def S_row : Sb := fun es Φ => ∃ (g B n : Nat) (p : List PyData) (J : List Nat → List Nat → Prop), es = [.own p, .dat (.int (n : Nat))] ∧ 1 ≤ n ∧ n ≤ 1000 ∧ B ≤ 1000 ∧ Pur (g + B) p ∧ ROk n B J ∧ ∀ (u : List Nat) (p' : List PyData), J (List.range n).reverse u → Pur g p' → Φ (.dat (nrow u)) [.own p', .dat (.int (n : Nat))]
theorem ok_row (F : Fun K "_law_row" "_law_row" (top 33) f fd) (C_one_of : Calls P w K mg base 3 "_law_one_of" S_one_of) (C_lexch : Calls P w K mg base 1 "_law_exchanged" S_exchanged) (m_list : mg "list" = none) (m_range : mg "range" = none) : FnOk P w K mg base CX0 4 f fd ["purse", "many"] (toSp K S_row) := by
  refine fn_ok [0] F sc33 (fun es Φ ⟨_, _, _, _, _, e, _⟩ => by subst e; rfl) (fun es Φ ⟨_, _, _, _, _, e, _⟩ => by subst e; exact own_of rfl) (fun cdv A outer s0 H E hr es Φ ⟨g, B, n, p, J, e, h1, h2, hB, hp, W, hΦ⟩ => ?_)
  subst e
  have hrg : RgOk 0 (n : Int) := RgOk.of_le (by omega) (by omega) (by omega) (by omega)
  refine sv_asgT (is := [2, 3]) rfl (pgs2 (pg_name (i := 2) sc33.nd rfl (.inr rfl)) (pg_name (i := 3) sc33.nd rfl (.inl rfl))) (by decide) (BA.eva (ba_cons (br_give (br_listRg1 (by rfl) (by rfl) m_list (by rfl) m_range (bv_v 1 rfl) hrg)) (ba_cons (br_give (br_lst ba_nil (by first | exact Nat.le_of_ble_eq_true rfl | decide | assumption | (simp [sizeLine_eq]; omega)))) ba_nil)) ⟨rfl, fun r hr' => ?_, ?_⟩) (Nat.le_of_ble_eq_true rfl)
  · simp at hr'
    rcases hr' with rfl | rfl <;> rfl
  refine sv_while PassesOwn.never (fun m Γ1 => ∃ (o u : List Nat) (p : List PyData) (t4 t5 : Ent), J o u ∧ Pur (g + (B - u.length)) p ∧ m = B - u.length ∧ Γ1 = [.own p, .dat (.int (n : Nat)), .dat (nrow o), .dat (nrow u), t4, t5]) B ⟨List.range n, [], p, .no, .no, W.init, hp, rfl, rfl⟩ ?_
  rintro m Γ1 ⟨o, u, p, t4, t5, hJ, hp, rfl, rfl⟩
  obtain ⟨ho, hu⟩ := W.size _ _ hJ
  have erev : (nums (List.range n)).reverse = nums (List.range n).reverse := by unfold nums; rw [List.map_reverse]
  refine ⟨!decide (o = (List.range n).reverse), BT.is (bt_ne hr (bv_v 2 rfl) (BR.is (r2 := .new (nums (List.range n).reverse)) (br_rev (br_listRg1 (by rfl) (by rfl) m_list (by rfl) m_range (bv_v 1 rfl) hrg) rfl pe_neg1 (fun _ _ => rfl)) (by rw [← erev]; rfl)) rfl rfl (shaped_nrow _) (shaped_nrow _)) (by rw [eqv_nrow]), fun c => ?_, fun c => ?_⟩
  · have hne : o ≠ (List.range n).reverse := fun z => by rw [decide_eq_true z] at c; cases c
    obtain ⟨ha, hlt, hstep⟩ := W.step _ _ hJ hne
    have hal : (ascents n o).length ≤ n := by
      have := List.length_filter_le (fun k => decide (o.getD k 0 < o.getD (k + 1) 0)) (List.range (n - 1))
      rw [List.length_range] at this
      unfold ascents
      omega
    refine sv_asgE (i := 4) sc33.nd rfl (.inl rfl) (by decide) (ev_own C_one_of (hr.mono (by decide)) (by rfl) (eva_cons (BR.ev (br_o 0 rfl) (BA.eva (ds := [.list ((ascents n o).map fun k => .int (k : Nat))]) (ba_cons (br_give (br_lc1f (L := List.range (n - 1)) (enc := fun i => .int (i : Nat)) (keep := fun k => decide (o.getD k 0 < o.getD (k + 1) 0)) (f := fun i => .int (i : Nat)) sc33.nd bk33_0 (pi_range1 (by rfl) m_range (pa_cons pe_can pa_nil)) ((show (((n : Int) - 1).toNat) = n - 1 by omega) ▸ gv_range1 (hs := rfl) (bv_sub (bv_v 1 rfl) bv_int) (by omega)) (fun Y hY => ?_) (by rw [List.length_range, sizeLine_eq]; omega) (fun i hi Y hY => ?_) (fun i hi _ Y hY => ?_))) ba_nil)
      ⟨fun i h => by cases h; trivial, (show ([0] : List Nat).Nodup from by decide), g + (B - u.length - 1), p, _, rfl, hp.less (by omega), fun z => ha (List.map_eq_nil_iff.mp z), by rw [List.length_map]; omega, fun r d p' hd hp' => ?_⟩))))
    · obtain ⟨_, _, _, _, _, rfl⟩ := hY
      exact pg_name (i := 5) sc33.nd rfl (.inl rfl)
    · obtain ⟨_, _, _, _, _, rfl⟩ := hY
      have hi' := List.mem_range.mp hi
      have k1 : L2.atI (nums o) (i : Int) = some (.int (o.getD i 0 : Nat)) := at_n i rfl (by omega)
      have k2 : L2.atI (nums o) ((i : Int) + 1) = some (.int (o.getD (i + 1) 0 : Nat)) := at_n (i + 1) rfl (by omega)
      refine BT.is (bt_lt (bv_ix (bv_v 2 rfl) (bv_v 5 rfl) rfl k1) (bv_ix (bv_v 2 rfl) (bv_add (bv_v 5 rfl) bv_int) rfl k2)) ?_
      apply decide_eq_decide.mpr
      omega
    · obtain ⟨_, _, _, _, _, rfl⟩ := hY
      exact (bv_v 5 rfl)
    · rw [List.getElem?_map] at hd
      cases hk : (ascents n o)[r]? with
      | none => rw [hk] at hd; cases hd
      | some k =>
        rw [hk] at hd
        have ed : PyData.int (k : Nat) = d := Option.some.inj hd
        subst ed
        have hmem : k ∈ ascents n o := List.mem_of_getElem? hk
        have hkn : k + 1 < n := by
          have := List.mem_range.mp (List.mem_filter.mp hmem).1
          omega
        have C2 : S_exchanged ([nrow o, PyData.int (k : Nat)].map .dat) fun r' _ => r' = .new (nums (exch o k)) := ⟨o, k, rfl, by omega, by omega, rfl⟩
        have hz : (nums u).length + [PyData.int (k : Nat)].length ≤ sizeLine := by
          rw [List.length_map, sizeLine_eq]
          simp only [List.length_singleton]
          omega
        refine sv_asgT (is := [3, 2]) rfl (pgs2 (pg_name (i := 3) sc33.nd rfl (.inl rfl)) (pg_name (i := 2) sc33.nd rfl (.inr rfl))) (by decide) (BA.eva (ba_cons (br_give (br_cat (bv_v 3 rfl) (br_lst (ba_cons (bv_v 4 rfl) ba_nil) (by first | exact Nat.le_of_ble_eq_true rfl | decide | assumption | (simp [sizeLine_eq]; omega))) rfl rfl hz)) (ba_cons (br_give (br_own C_lexch (hr.mono (by decide)) (by rfl) (ba_cons (bv_v 2 rfl) (ba_cons (bv_v 4 rfl) ba_nil)) C2)) ba_nil)) ⟨rfl, fun r hr' => ?_, sv_nil ?_⟩) (Nat.le_of_ble_eq_true rfl)
        · simp at hr'
          rcases hr' with rfl | rfl <;> rfl
        · refine ⟨B - (u ++ [k]).length, by rw [List.length_append, List.length_singleton]; omega, exch o k, u ++ [k], p', .dat (.int (k : Nat)), t5, hstep k hmem, hp'.less (by rw [List.length_append, List.length_singleton]; omega), rfl, ?_⟩
          show [_, _, _, Ent.dat (.list (nums u ++ [PyData.int (k : Nat)])), _, _] = _
          unfold nrow nums
          rw [List.map_append]
          rfl
  · have he : o = (List.range n).reverse := by
      by_cases z : o = (List.range n).reverse
      · exact z
      · rw [decide_eq_false z] at c; cases c
    subst he
    exact sv_ret (BR.ev (bv_v 3 rfl) ⟨_, rfl, hΦ u p hJ (hp.less (by omega))⟩)
end
end K75
set_option Elab.async false
set_option autoImplicit false
set_option linter.all false
set_option maxRecDepth 100000
set_option maxHeartbeats 2000000
/-! K16: _law_walked. -/
namespace K75
open PySem PySem.Spec PyProof.Rows L2 Bv

section
variable {P : Program} {w : World} {K : PySem.W.Frag} {mg : Str → Option Value} {base : Heap} {k : Nat} {f : Addr} {fd : FuncData}
def S_walked : Sb := fun es Φ => ∃ (g m : Nat) (r : List Nat) (p : List PyData), es = [.own p, .dat (nrow r), .dat (.int (m : Nat))] ∧ m ≤ 1000 ∧ r.length ≤ 1000 ∧ Pur (g + m) p ∧ ∀ (L : List (List Nat)) (p' : List PyData), Walk r L → L.length ≤ m + 1 → Pur g p' → Φ (.dat (.list (L.map nrow))) [.own p', .dat (nrow r), .dat (.int (m : Nat))]
theorem ok_walked (F : Fun K "_law_walked" "_law_walked" (top 39) f fd) (C_one_of : Calls P w K mg base 3 "_law_one_of" S_one_of) (C_lmoved : Calls P w K mg base 1 "_law_moved" S_lmoved) (m_range : mg "range" = none) : FnOk P w K mg base CX0 4 f fd ["purse", "row", "many"] (toSp K S_walked) := by
  refine fn_ok [0] F sc39 (fun es Φ ⟨_, _, _, _, e, _⟩ => by subst e; rfl) (fun es Φ ⟨_, _, _, _, e, _⟩ => by subst e; exact own_of rfl) (fun cdv A outer s0 H E hr es Φ ⟨g, m, r, p, e, h1, h2, hp, hΦ⟩ => ?_)
  subst e
  refine sv_asg (i := 3) sc39.nd rfl (.inl rfl) (by decide) (br_give (br_lst (ba_cons (bv_v 1 rfl) ba_nil) (by first | exact Nat.le_of_ble_eq_true rfl | decide | assumption | (simp [sizeLine_eq]; omega)))) ?_
  refine sv_forR (i := 4) (n := m) (fun q Γ1 => ∃ (L : List (List Nat)) (p : List PyData) (t4 t5 t6 t7 : Ent), Walk r L ∧ L.length ≤ q + 1 ∧ Pur (g + (m - q)) p ∧ Γ1 = [.own p, .dat (nrow r), .dat (.int (m : Nat)), .dat (.list (L.map nrow)), t4, t5, t6, t7]) sc39.nd (pg_name sc39.nd rfl (.inl rfl)) (by decide) PassesOwn.never m_range (bv_v 2 rfl) (by omega) (by omega) ⟨[r], p, .no, .no, .no, .no, ⟨rfl, rfl, fun q hq => by rw [List.mem_singleton.mp hq]⟩, Nat.le_refl _, hp, rfl⟩ ?_ ?_
  · rintro q Γ1 hq ⟨L, p, t4, t5, t6, t7, hW, hL, hp, rfl⟩
    obtain ⟨hW1, hW2, hW3⟩ := hW
    obtain ⟨rl, hrl⟩ : ∃ rl, L.getLast? = some rl := by
      cases h : L.getLast? with
      | none => rw [List.getLast?_eq_none_iff.mp h] at hW1; cases hW1
      | some x => exact ⟨x, rfl⟩
    have hmem : rl ∈ L := List.mem_of_getLast? hrl
    have hrlen := hW3 rl hmem
    have g1 : L2.atI (L.map nrow) (-1) = some (nrow rl) := by
      obtain ⟨ys, e⟩ := List.getLast?_eq_some_iff.mp hrl
      rw [e, List.map_append]
      exact atI_last _ _
    have hlm := lm_len rl
    have C3 : S_lmoved ([nrow rl].map .dat) fun r' _ => r' = .new ((lm rl).map encL) := ⟨_, rfl, by omega, rfl⟩
    refine sv_setLc (i := 5) (L := lm rl) (enc := encL) (is := [6, 7]) (sp := fun q => [.int (if q.1 then 1 else 0), nrow q.2]) (keep := fun _ => true) (f := fun q => nrow q.2) rfl sc39.nd rfl rfl (by decide) (sw_true rfl rfl rfl rfl) (pi_list pe_can) (gv_list (br_give (br_own C_lmoved (hr.mono (by decide)) (by rfl) (ba_cons (bv_ix (bv_v 3 rfl) (bv_tC pe_usub1) rfl g1) ba_nil) C3))) bk39_0 (by decide) (fun z _ Y hY => ?_) (by rw [sizeLine_eq]; omega) ?_
    · obtain ⟨_, _, _, _, _, rfl⟩ := hY
      exact ⟨bg_unl rfl (pgs2 (pg_name (i := 6) sc39.nd rfl (.inl rfl)) (pg_name (i := 7) sc39.nd rfl (.inl rfl))) rfl, bts_nil, fun _ => (bv_v 7 rfl)⟩
    rw [filter_yes]
    refine sv_freeze (i := 5) rfl ?_
    have T1 := shaped_rows ((lm rl).map fun z => z.2)
    rw [List.map_map] at T1
    have hz : (L.map nrow).length ≤ 1001 := by rw [List.length_map]; omega
    refine sv_asgE (i := 3) sc39.nd rfl (.inl rfl) (by decide) (ev_give (ev_catD (bv_v 3 rfl) (ev_give (ev_if (BT.is (d := !(lm rl).isEmpty) (bt_ne hr (bv_v 5 rfl) (br_lst ba_nil (by first | exact Nat.le_of_ble_eq_true rfl | decide | assumption | (simp [sizeLine_eq]; omega))) rfl rfl T1 rfl) (by rw [eqv_nil]; cases lm rl <;> rfl)) (fun c => ?_) (fun c => ?_)))))
    · have hne : lm rl ≠ [] := fun z => by rw [z] at c; cases c
      refine ev_lst (eva_cons (ev_own C_one_of (hr.mono (by decide)) (by rfl) (eva_cons (BR.ev (br_o 0 rfl) (BA.eva (ba_cons (bv_v 5 rfl) ba_nil) ⟨fun i h => by cases h; trivial, (show ([0] : List Nat).Nodup from by decide), g + (m - q - 1), p, _, rfl, hp.less (by omega), fun z => hne (List.map_eq_nil_iff.mp z), by rw [List.length_map]; omega, fun j d p' hd hp' => ?_⟩)))))
      rw [List.getElem?_map] at hd
      cases hk : (lm rl)[j]? with
      | none => rw [hk] at hd; cases hd
      | some z =>
        rw [hk] at hd
        have ed : nrow z.2 = d := Option.some.inj hd
        subst ed
        have hz1 : z ∈ lm rl := List.mem_of_getElem? hk
        have hz2 : z.2.length = rl.length := move_len (mem_lm.mp hz1)
        refine eva_nil ⟨fun i h => (nomatch h), [nrow z.2], rfl, Nat.le_of_ble_eq_true rfl, _, _, rfl, _, rfl, by rw [sizeLine_eq]; simp only [List.length_singleton]; omega, _, _, rfl, sv_nil ?_⟩
        refine ⟨L ++ [z.2], p', .dat (.int (q : Nat)), .dat (.list ((lm rl).map fun q => nrow q.2)), t6, t7, ⟨?_, steps_snoc hW2 hrl ?_, fun y hy => ?_⟩, by rw [List.length_append, List.length_singleton]; omega, hp'.less (by omega), ?_⟩
        · cases L with
          | nil => cases hW1
          | cons a b => exact hW1
        · rw [← step_same]
          exact List.any_eq_true.mpr ⟨z, hz1, decide_eq_true rfl⟩
        · rcases List.mem_append.mp hy with hy | hy
          · exact hW3 y hy
          · rw [List.mem_singleton.mp hy]; omega
        · rw [List.map_append]
          rfl
    · refine (BR.ev (br_lst ba_nil (Nat.zero_le _)) ⟨_, _, rfl, _, rfl, by rw [sizeLine_eq]; simp only [List.length_nil]; omega, _, _, rfl, sv_nil ?_⟩)
      refine ⟨L, p, .dat (.int (q : Nat)), .dat (.list ((lm rl).map fun q => nrow q.2)), t6, t7, ⟨hW1, hW2, hW3⟩, by omega, hp.less (by omega), ?_⟩
      rw [List.append_nil]
      rfl
  · rintro Γ1 ⟨L, p, t4, t5, t6, t7, hW, hL, hp, rfl⟩
    exact sv_ret (BR.ev (bv_v 3 rfl) ⟨_, rfl, hΦ L p hW hL (hp.less (by omega))⟩)
end
end K75
set_option Elab.async false
set_option autoImplicit false
set_option linter.all false
set_option maxRecDepth 100000
set_option maxHeartbeats 2000000
/-! K17: _law_exact, of a thing and itself. -/
namespace K75
open PySem PySem.Spec PyProof.Rows L2 Bv

def plainD : Nat → PyData → Prop
  | 0, d => (∃ i, d = .int i) ∨ ∃ b, d = .bool b
  | j + 1, d => plainD j d ∨ ∃ ds, d = .list ds ∧ ds.length ≤ 1000000 ∧ ∀ x ∈ ds, plainD j x
theorem eqv_bb (b : Bool) : PyData.eqv (.bool b) (.bool b) = true := by cases b <;> rfl
theorem scal {j : Nat} {d : PyData} (h : plainD j d) (hn : ∀ ds, d ≠ .list ds) : (∃ i, d = .int i) ∨ ∃ b, d = .bool b := by
  induction j with
  | zero => exact h
  | succ j ih =>
    rcases h with h | ⟨ds, e, _⟩
    · exact ih h
    · exact absurd e (hn ds)
theorem lst_in {j : Nat} {ds : List PyData} (h : plainD j (.list ds)) : ∃ i, i < j ∧ ds.length ≤ 1000000 ∧ ∀ x ∈ ds, plainD i x := by
  induction j with
  | zero => rcases h with ⟨i, e⟩ | ⟨b, e⟩ <;> cases e
  | succ j ih =>
    rcases h with h | ⟨es, e, h1, h2⟩
    · obtain ⟨i, a, b⟩ := ih h
      exact ⟨i, by omega, b⟩
    · cases e
      exact ⟨j, by omega, h1, h2⟩
theorem kb (T : String) (n : String) (b : Bool) (h : (kitB n T).getD false = b) {d : PyData} (e : Bv.typeName d = n) : isA T d = b := by
  unfold isA
  rw [e]
  exact h
theorem zip_self : ∀ ds : List PyData, (ds.zip ds).map (fun q => PyData.tuple [q.1, q.2]) = ds.map fun x => PyData.tuple [x, x]
  | [] => rfl
  | x :: xs => by
    rw [List.zip_cons_cons, List.map_cons, List.map_cons, zip_self xs]
section
variable {P : Program} {w : World} {K : PySem.W.Frag} {mg : Str → Option Value} {base : Heap} {k : Nat} {f : Addr} {fd : FuncData}
def S_exact (j : Nat) : Sb := fun es Φ => ∃ d, es = [.dat d, .dat d] ∧ plainD j d ∧ Φ (.dat (.bool true)) es
theorem ok_exact (F : Fun K "_law_exact" "_law_exact" (top 30) f fd) (mgf : mg "_law_exact" = some (.ref f)) (hb : Binds K fd ["mine", "theirs"] []) (m_isinstance : mg "isinstance" = none) (m_dict : mg "dict" = none) (m_list : mg "list" = none) (m_tuple : mg "tuple" = none) (m_int : mg "int" = none) (m_str : mg "str" = none) (m_bool : mg "bool" = none) (m_len : mg "len" = none) (m_all : mg "all" = none) (m_zip : mg "zip" = none) :
    ∀ j, FnOk P w K mg base CX0 (j + 1) f fd ["mine", "theirs"] (toSp K (S_exact j)) := by
  intro j
  induction j using Nat.strongRecOn with
  | ind j ih =>
  refine fn_ok [] F sc30 (fun es Φ ⟨_, e, _⟩ => by subst e; rfl) (fun es Φ ⟨_, e, _⟩ => by subst e; exact own_of rfl) (fun cdv A outer s0 H E hr es Φ ⟨d, e, hd, hΦ⟩ => ?_)
  subst e
  by_cases hl : ∃ ds, d = .list ds
  · obtain ⟨ds, rfl⟩ := hl
    obtain ⟨i, hi, hlen, hin⟩ := lst_in hd
    have e1 : isA "dict" (.list ds) = false := kb "dict" "list" false (by decide +kernel) rfl
    have e2 : isA "list" (.list ds) = true := kb "list" "list" true (by decide +kernel) rfl
    refine sv_when (bt_val (bv_isi (tn := "dict") (by rfl) m_isinstance (by rfl) m_dict (by decide +kernel) (bv_v 0 rfl) rfl (by decide +kernel))) (fun c => by rw [e1] at c; cases c) (fun _ => ?_)
    refine sv_when (bt_val (bv_isiT (ts := ["list", "tuple"]) (by rfl) m_isinstance ⟨_, _, rfl, by rfl, m_list, by decide +kernel, by decide, by decide, rfl, ⟨_, _, rfl, by rfl, m_tuple, by decide +kernel, by decide, by decide, rfl, rfl⟩⟩ (bv_v 0 rfl) rfl (by decide) (by decide +kernel))) (fun _ => ?_) (fun c => by rw [List.any_cons, e2, Bool.true_or] at c; cases c)
    refine sv_asg (i := 2) (r := .dat (.bool true)) sc30.nd rfl (.inl rfl) List.not_mem_nil (BR.is (bv_eq hr (bv_isi (tn := "list") (by rfl) m_isinstance (by rfl) m_list (by decide +kernel) (bv_v 1 rfl) rfl (by decide +kernel)) (bv_isi (tn := "list") (by rfl) m_isinstance (by rfl) m_list (by decide +kernel) (bv_v 0 rfl) rfl (by decide +kernel)) rfl rfl (by first | exact shaped_nrow _ | rfl | assumption) (by first | exact shaped_nrow _ | rfl | assumption)) (by rw [eqv_bb])) ?_
    refine sv_asg (i := 3) (r := .dat (.bool true)) sc30.nd rfl (.inl rfl) List.not_mem_nil (BR.is (bv_and (bv_v 2 rfl) (fun c1 => (bv_one (bv_eq hr (bv_isi (tn := "tuple") (by rfl) m_isinstance (by rfl) m_tuple (by decide +kernel) (bv_v 1 rfl) rfl (by decide +kernel)) (bv_isi (tn := "tuple") (by rfl) m_isinstance (by rfl) m_tuple (by decide +kernel) (bv_v 0 rfl) rfl (by decide +kernel)) rfl rfl (by first | exact shaped_nrow _ | rfl | assumption) (by first | exact shaped_nrow _ | rfl | assumption))))) (by rw [eqv_bb]; rfl)) ?_
    have ez : (ds.zip ds).map (fun q => PyData.tuple [q.1, q.2]) = ds.map fun x => PyData.tuple [x, x] := zip_self ds
    have IH := ih i hi
    have C : Calls P w K mg base (i + 1) "_law_exact" (S_exact i) := ⟨f, fd, _, IH, mgf, F.kp, hb⟩
    have en : PyData.eqv (.int (ds.length : Nat)) (.int (ds.length : Nat)) = true := by rw [eqv_nn]; simp
    refine sv_ret (BR.ev (BR.is (r2 := .dat (.bool true)) (bv_and (bv_v 3 rfl) (fun _ => bv_and (bv_eq hr (bv_len (by rfl) m_len (bv_v 0 rfl) rfl) (bv_len (by rfl) m_len (bv_v 1 rfl) rfl) rfl rfl (by first | exact shaped_nrow _ | rfl | assumption) (by first | exact shaped_nrow _ | rfl | assumption)) (fun _ => bv_one (bv_all (bs := ds.map fun _ => true) (by rfl) (by rfl) m_all
      (br_lc2 (L := ds) (enc := fun x => .tuple [x, x]) (sp1 := fun x => x) (sp2 := fun x => x) (f := fun _ => .bool true) sc30.nd bk30_1 (pi_zip (by rfl) m_zip (pa_cons pe_can (pa_cons pe_can pa_nil))) (ez ▸ gv_zip (bv_v 0 rfl) (bv_v 1 rfl)) (fun x _ Y hY => ?_) (by rw [sizeLine_eq]; omega) (fun x hx Y hY => ?_)) ?_)))) (by rw [en, all_bools]; simp)) ⟨_, rfl, hΦ⟩)
    · obtain ⟨_, _, _, _, _, rfl⟩ := hY
      exact bg_tup rfl (pgs2 (pg_name (i := 5) sc30.nd rfl (.inl rfl)) (pg_name (i := 6) sc30.nd rfl (.inl rfl))) rfl
    · obtain ⟨_, _, _, _, _, rfl⟩ := hY
      have C1 : S_exact i ([x, x].map .dat) fun r' _ => r' = .dat (.bool true) := ⟨x, rfl, hin x hx, rfl⟩
      exact br_own C (hr.mono (by omega)) (by rfl) (ba_cons (bv_v 5 rfl) (ba_cons (bv_v 6 rfl) ba_nil)) C1
    · show some _ = some _
      rw [List.map_map]
      rfl
  · have key : isA "dict" d = false ∧ isA "list" d = false ∧ isA "tuple" d = false ∧ PyData.eqv d d = true ∧ SeqAt.shaped d = true := by
      rcases scal hd (fun ds e => hl ⟨ds, e⟩) with ⟨i, rfl⟩ | ⟨b, rfl⟩
      · exact ⟨kb "dict" "int" false (by decide +kernel) rfl, kb "list" "int" false (by decide +kernel) rfl, kb "tuple" "int" false (by decide +kernel) rfl, by show (i == i) = true; simp, rfl⟩
      · exact ⟨kb "dict" "bool" false (by decide +kernel) rfl, kb "list" "bool" false (by decide +kernel) rfl, kb "tuple" "bool" false (by decide +kernel) rfl, eqv_bb b, rfl⟩
    obtain ⟨e1, e2, e3, e4, e5⟩ := key
    refine sv_when (bt_val (bv_isi (tn := "dict") (by rfl) m_isinstance (by rfl) m_dict (by decide +kernel) (bv_v 0 rfl) rfl (by decide +kernel))) (fun c => by rw [e1] at c; cases c) (fun _ => ?_)
    refine sv_when (bt_val (bv_isiT (ts := ["list", "tuple"]) (by rfl) m_isinstance ⟨_, _, rfl, by rfl, m_list, by decide +kernel, by decide, by decide, rfl, ⟨_, _, rfl, by rfl, m_tuple, by decide +kernel, by decide, by decide, rfl, rfl⟩⟩ (bv_v 0 rfl) rfl (by decide) (by decide +kernel))) (fun c => by rw [List.any_cons, List.any_cons, e2, e3] at c; cases c) (fun _ => ?_)
    refine sv_when (BT.is (d := false) (bw_t (bw_or (bt_val (bv_isiT (ts := ["list", "tuple", "dict"]) (by rfl) m_isinstance ⟨_, _, rfl, by rfl, m_list, by decide +kernel, by decide, by decide, rfl, ⟨_, _, rfl, by rfl, m_tuple, by decide +kernel, by decide, by decide, rfl, ⟨_, _, rfl, by rfl, m_dict, by decide +kernel, by decide, by decide, rfl, rfl⟩⟩⟩ (bv_v 1 rfl) rfl (by decide) (by decide +kernel))) (fun c1 => (bw_or1 (bt_ne hr (bv_isN (bv_v 0 rfl) bv_non) (bv_isN (bv_v 1 rfl) bv_non) rfl rfl (by first | exact shaped_nrow _ | rfl | assumption) (by first | exact shaped_nrow _ | rfl | assumption)))))) (by rw [List.any_cons, List.any_cons, List.any_cons, e1, e2, e3, eqv_bb]; rfl)) (fun c => by cases c) (fun _ => ?_)
    refine sv_asg (i := 3) (r := .dat (.bool true)) sc30.nd rfl (.inl rfl) List.not_mem_nil (BR.is (bv_and (bv_eq hr (bv_isi (tn := "int") (by rfl) m_isinstance (by rfl) m_int (by decide +kernel) (bv_v 0 rfl) rfl (by decide +kernel)) (bv_isi (tn := "int") (by rfl) m_isinstance (by rfl) m_int (by decide +kernel) (bv_v 1 rfl) rfl (by decide +kernel)) rfl rfl (by first | exact shaped_nrow _ | rfl | assumption) (by first | exact shaped_nrow _ | rfl | assumption)) (fun c1 => (bv_one (bv_eq hr (bv_isi (tn := "str") (by rfl) m_isinstance (by rfl) m_str (by decide +kernel) (bv_v 0 rfl) rfl (by decide +kernel)) (bv_isi (tn := "str") (by rfl) m_isinstance (by rfl) m_str (by decide +kernel) (bv_v 1 rfl) rfl (by decide +kernel)) rfl rfl (by first | exact shaped_nrow _ | rfl | assumption) (by first | exact shaped_nrow _ | rfl | assumption))))) (by rw [eqv_bb, eqv_bb]; rfl)) ?_
    exact sv_ret (BR.ev (BR.is (r2 := .dat (.bool true)) (bv_and (bv_v 3 rfl) (fun c1 => (bv_and (bv_eq hr (bv_isi (tn := "bool") (by rfl) m_isinstance (by rfl) m_bool (by decide +kernel) (bv_v 0 rfl) rfl (by decide +kernel)) (bv_isi (tn := "bool") (by rfl) m_isinstance (by rfl) m_bool (by decide +kernel) (bv_v 1 rfl) rfl (by decide +kernel)) rfl rfl (by first | exact shaped_nrow _ | rfl | assumption) (by first | exact shaped_nrow _ | rfl | assumption)) (fun c2 => (bv_one (bv_eq hr (bv_v 0 rfl) (bv_v 1 rfl) rfl rfl (by first | exact shaped_nrow _ | rfl | assumption) (by first | exact shaped_nrow _ | rfl | assumption))))))) (by rw [eqv_bb, e4]; rfl)) ⟨_, rfl, hΦ⟩)
end
end K75
set_option Elab.async false
set_option autoImplicit false
set_option linter.all false
set_option maxRecDepth 100000
set_option maxHeartbeats 2000000
/-! K18: a purse is made. -/
namespace K75
open PySem PySem.Spec PyProof.Rows L2 Bv

def purseOf (seed : Int) (a : Nat) : List PyData := [.int ((if (0 : Int) > seed - 10 ^ (18 : Int).toNat then 0 else seed - 10 ^ (18 : Int).toNat) % ((10 ^ (60 : Int).toNat) ^ (8 : Int).toNat)), .int (seed % 2147483629), .int 0, .int (a : Nat)]
def seedOf (ns : List Int) (a : Nat) : Int := (cutL ns (some (a : Int)) (some ((a : Int) + 1))).sum
theorem purse_ok (seed : Int) {a : Nat} (ha : a < 2 ^ 24) : Pur (2 ^ 40) (purseOf seed a) := by
  have p4 : (0 : Int) < (10 ^ (60 : Int).toNat) ^ (8 : Int).toNat := by decide +kernel
  have p6 : ((10 : Int) ^ (60 : Int).toNat) ^ (8 : Int).toNat = 10 ^ 480 := by decide +kernel
  have p5 : (0 : Int) < 2147483629 := by decide
  refine ⟨_, _, 0, (a : Int), rfl, ?_, ?_, ?_, ?_, by decide, by decide, by omega, by omega⟩
  · exact Int.emod_nonneg _ (by omega)
  · rw [← p6]; exact Int.emod_lt_of_pos _ p4
  · exact Int.emod_nonneg _ (by omega)
  · exact Int.emod_lt_of_pos _ p5
section
variable {P : Program} {w : World} {K : PySem.W.Frag} {mg : Str → Option Value} {base : Heap} {k : Nat} {f : Addr} {fd : FuncData}
def S_purse : Sb := fun es Φ => ∃ (ns : List Int) (a : Nat), es = [.scr ns, .dat (.int (a : Nat))] ∧ Φ (.new (purseOf (seedOf ns a) a)) es
theorem ok_purse (F : Fun K "_law_purse" "_law_purse" (top 25) f fd) (m_sum : mg "sum" = none) (m_int : mg "int" = none) (m_max : mg "max" = none) : FnOk P w K mg base CX0 1 f fd ["script", "at"] (toSp K S_purse) := by
  refine fn_ok [] F sc25 (fun es Φ ⟨_, _, e, _⟩ => by subst e; rfl) (fun es Φ ⟨_, _, e, _⟩ => by subst e; exact own_of rfl) (fun cdv A outer s0 H E hr es Φ ⟨ns, a, e, hΦ⟩ => ?_)
  subst e
  refine sv_asg (i := 2) sc25.nd rfl (.inl rfl) List.not_mem_nil (bv_sum (ns := cutL ns (some (a : Int)) (some ((a : Int) + 1))) (by rfl) (by rfl) m_sum (br_sliceScr (i0 := 0) rfl (.inl rfl) rfl (bo_some (bv_v 1 rfl)) (bo_some (bv_add (bv_v 1 rfl) bv_int))) rfl) ?_
  unfold seedOf at hΦ
  generalize (cutL ns (some (a : Int)) (some ((a : Int) + 1))).sum = seed at hΦ ⊢
  have p1 : CPowX 10 18 := ⟨by decide, by have := PySem.intBits_le_iff (m := 64) (x := 10) |>.mpr (by decide); omega⟩
  have p2 : CPowX 10 60 := ⟨by decide, by have := PySem.intBits_le_iff (m := 64) (x := 10) |>.mpr (by decide); omega⟩
  have p3 : CPowX (10 ^ (60 : Int).toNat) 8 := ⟨by decide, by have := PySem.intBits_le_iff (m := 200) (x := 10 ^ (60 : Int).toNat) |>.mpr (by decide +kernel); omega⟩
  have p4 : (0 : Int) < (10 ^ (60 : Int).toNat) ^ (8 : Int).toNat := by decide +kernel
  have p5 : (0 : Int) < 2147483629 := by decide
  refine sv_ret (BR.ev (br_lst (ba_cons (bv_mod (bv_toInt (by rfl) m_int (bv_max (by rfl) (by rfl) m_max (bv_sub (bv_v 2 rfl) (bv_pow bv_int bv_int p1)) bv_int)) (bv_pow (bv_pow bv_int bv_int p2) bv_int p3) p4) (ba_cons (bv_mod (bv_toInt (by rfl) m_int (bv_v 2 rfl)) bv_int p5) (ba_cons bv_int (ba_cons (bv_v 1 rfl) ba_nil)))) (by first | exact Nat.le_of_ble_eq_true rfl | decide | assumption | (simp [sizeLine_eq]; omega))) ⟨_, rfl, hΦ⟩)
end
end K75
set_option Elab.async false
set_option autoImplicit false
set_option linter.all false
set_option maxRecDepth 100000
set_option maxHeartbeats 2000000
/-! K19: the purses. -/
namespace K75
open PySem PySem.Spec PyProof.Rows L2 Bv

def CondP (pss : List (List PyData)) : Prop := ∀ p ∈ pss, Pur (2 ^ 40) p
def rawP (K : PySem.W.Frag) : Sp := fun vs H Q _ => ∃ (B : Hp) (ns : List Int) (l : Addr), vs = [.ref l, .int 2] ∧ SqL K B l (ns.map V.int) ∧ Same B H ∧ ns.length < 2 ^ 24 ∧
  ∀ D refs pss B' H', Bv.Pur B H B' H' → H D = none → B' D = none → H' D = some (.lst (refs.map V.ref)) → D ∉ refs → Fresh K H B' H' refs pss → CondP pss → Q (.ref D) H'
section
variable {P : Program} {w : World} {K : PySem.W.Frag} {mg : Str → Option Value} {base : Heap} {k : Nat} {f : Addr} {fd : FuncData}
theorem ok_purses (F : Fun K "_law_purses" "_law_purses" (top 28) f fd) (C_purse : Calls P w K mg base 1 "_law_purse" S_purse) (m_range : mg "range" = none) (m_max : mg "max" = none) (m_min : mg "min" = none) (m_len : mg "len" = none) : FnOk P w K mg base CX0 2 f fd ["script", "few"] (rawP K) := by
  refine F.ok sc28 (fun vs H Q E ⟨_, _, _, e, _⟩ => by subst e; rfl) (fun cdv A outer s0 H vs Q E hr ⟨B, ns, l, e, sq, sub, hl, q⟩ => ?_)
  subst e
  have s1 := (start_st (N := N28) (scr_ent (d := .int 2) sub sq (.int 2))).1
  let X := (cxOf CX0 P w K mg base N28 "_law_purses" (defScope (top 28)) f cdv A outer s0 H E).nox
  have hX : Stt X.K B H (startE N28 [.scr ns, .dat (.int 2)]) (start N28 [.ref l, .int 2]) := s1
  have hm : ∀ m : Int, (m = if (2 : Int) > (ns.length : Nat) then ((ns.length : Nat) : Int) else 2) → ((if m > (1 : Int) then m else 1).toNat ≤ 2 ∧ -(2 ^ 62) ≤ (if m > (1 : Int) then m else 1) ∧ (if m > (1 : Int) then m else 1) < 2 ^ 62) := by
    intro m hm
    by_cases h : (2 : Int) > (ns.length : Nat)
    · rw [if_pos h] at hm
      split <;> omega
    · rw [if_neg h] at hm
      split <;> omega
  have hbd := hm _ rfl
  refine ⟨_, pss_one (ps_ret (pe_lc (X := X) rfl sc28.nd (pi_range1 (by rfl) m_range (pa_cons pe_can pa_nil)) bk28_0 blk_g (fun s H C cl fp => blk_t s H C cl fp) blk_e)), ?_⟩
  refine lc_fresh (X := X) (L := List.range _) (enc := fun i => .int (i : Nat)) (ps := fun a => purseOf (seedOf ns a) a) (gv_range1 (hs := rfl) (bv_max (by rfl) (by rfl) m_max bv_int (bv_min2 (by rfl) (by rfl) m_min (bv_v 1 rfl) (bv_lenScr (i0 := 0) (by rfl) m_len rfl (.inr (.inl rfl)) rfl))) hbd.2) (fun Y hY => ?_) (fun a ha Y hY => ?_) (by rw [List.length_range, sizeLine_eq]; omega) hX fun D refs B' H' o h1 h2 h3 h4 h5 => q D refs _ B' H' o h1 h2 h3 h4 h5 fun p hp => ?_
  · obtain ⟨_, _, _, _, _, rfl⟩ := hY
    exact pg_name (i := 2) sc28.nd rfl (.inl rfl)
  · obtain ⟨_, _, _, _, _, rfl⟩ := hY
    exact br_ownScr (i0 := 0) C_purse (hr.mono (by decide)) (by rfl) rfl (by first | exact .inl rfl | exact .inr (.inl rfl) | exact .inr (.inr rfl)) rfl (bv_v 2 rfl) ⟨ns, a, rfl, rfl⟩
  · obtain ⟨a, ha, rfl⟩ := List.mem_map.mp hp
    have := List.mem_range.mp ha
    exact purse_ok _ (by omega)
end
end K75
set_option Elab.async false
set_option autoImplicit false
set_option linter.all false
set_option maxRecDepth 100000
set_option maxHeartbeats 2000000
/-! K20: the texts that repr gives are short. -/
namespace K75
open PySem PySem.Spec PyProof.Rows L2 Bv

theorem textFrom_le : ∀ (ts : List Str) (k : Nat) (acc : Str), (textFrom k acc ts).length ≤ acc.length + piled ts
  | [], k, acc => Nat.le_refl _
  | t :: r, k, acc => by
    have h := textFrom_le r (k + 1) (acc ++ (if k > 0 then ", " else "" : String) ++ t)
    have e : (acc ++ (if k > 0 then ", " else "" : String) ++ t).length ≤ acc.length + 2 + t.length := by
      rw [strLen_append, strLen_append]
      have : ((if k > 0 then ", " else "" : String) : Str).length ≤ 2 := by split <;> decide
      omega
    rw [piled_cons]
    show (textFrom (k + 1) _ r).length ≤ _
    omega
theorem listText_le (ts : List Str) : (listText ts).length ≤ 2 + piled ts := by
  unfold listText
  rw [strLen_append]
  have h := textFrom_le ts 0 "["
  have e1 : (("[" : String) : Str).length = 1 := rfl
  have e2 : (("]" : String) : Str).length = 1 := rfl
  rw [e1] at h
  rw [e2]
  omega
theorem tupleText_le (ts : List Str) : (tupleText ts).length ≤ 4 + piled ts := by
  unfold tupleText
  rw [strLen_append, strLen_append]
  have e1 : ((("(" : String) : Str)).length = 1 := rfl
  have e3 : (((if ts.length == 1 then ",)" else ")" : String) : Str)).length ≤ 2 := by split <;> decide
  rw [e1]
  by_cases h : ts = []
  · subst h
    have : (Str.join ", " []).length = 0 := rfl
    omega
  · have := join_length_add ts h
    omega
/-- a row of few and small numbers -/
def smallR (r : List Nat) : Prop := r.length ≤ 20 ∧ ∀ k ∈ r, k < 10
theorem shown_digit {k : Nat} (h : k < 10) : (PyData.shown (.int (k : Int))).length ≤ 4 := by
  have key : ∀ k : Fin 10, (PyData.shown (.int ((k.val : Nat) : Int))).length ≤ 4 := by decide +kernel
  exact key ⟨k, h⟩
theorem show_digit {k : Nat} (h : k < 10) : PyData.showable (.int (k : Int)) = true := by
  have key : ∀ k : Fin 10, PyData.showable (.int ((k.val : Nat) : Int)) = true := by decide +kernel
  exact key ⟨k, h⟩
theorem nums_shown : ∀ {r : List Nat}, (∀ k ∈ r, k < 10) → piled (PyData.shownAll (nums r)) ≤ 6 * r.length ∧ PyData.showableAll (nums r) = true
  | [], _ => ⟨Nat.le_refl _, rfl⟩
  | k :: r, h => by
    obtain ⟨h1, h2⟩ := nums_shown (r := r) fun z hz => h z (List.mem_cons_of_mem _ hz)
    have h3 := shown_digit (h k List.mem_cons_self)
    refine ⟨?_, ?_⟩
    · show piled (PyData.shown (.int (k : Int)) :: PyData.shownAll (nums r)) ≤ _
      rw [piled_cons, List.length_cons]
      omega
    · show (PyData.showable (.int (k : Int)) && PyData.showableAll (nums r)) = true
      rw [h2, show_digit (h k List.mem_cons_self)]
      rfl
theorem row_shown {r : List Nat} (h : smallR r) : (PyData.shown (nrow r)).length ≤ 130 ∧ PyData.showable (nrow r) = true := by
  obtain ⟨h1, h2⟩ := nums_shown h.2
  refine ⟨?_, h2⟩
  show (listText (PyData.shownAll (nums r))).length ≤ _
  have := listText_le (PyData.shownAll (nums r))
  have := h.1
  omega
def smallI : Item → Prop
  | none => True
  | some r => smallR r
theorem item_shown {x : Item} (h : smallI x) : (PyData.shown (item x)).length ≤ 130 ∧ PyData.showable (item x) = true := by
  cases x with
  | none => exact ⟨by show (("None" : String) : Str).length ≤ 130; decide, rfl⟩
  | some r => exact row_shown h
theorem items_piled : ∀ {xs : List Item}, (∀ x ∈ xs, smallI x) → piled (PyData.shownAll (xs.map item)) ≤ 132 * xs.length ∧ PyData.showableAll (xs.map item) = true
  | [], _ => ⟨Nat.le_refl _, rfl⟩
  | x :: xs, h => by
    obtain ⟨h1, h2⟩ := items_piled (xs := xs) fun z hz => h z (List.mem_cons_of_mem _ hz)
    obtain ⟨h3, h4⟩ := item_shown (h x List.mem_cons_self)
    refine ⟨?_, ?_⟩
    · show piled (PyData.shown (item x) :: PyData.shownAll (xs.map item)) ≤ _
      rw [piled_cons, List.length_cons]
      omega
    · show (PyData.showable (item x) && PyData.showableAll (xs.map item)) = true
      rw [h2, h4]
      rfl
theorem tells_items {xs : List Item} (h : ∀ x ∈ xs, smallI x) (hl : xs.length ≤ 10000) : tells (items xs) := by
  obtain ⟨h1, h2⟩ := items_piled h
  refine ⟨.inl (items_lay xs).1, h2, ?_, by have := (items_lay xs).2; omega⟩
  show (listText (PyData.shownAll (xs.map item))).length ≤ _
  have := listText_le (PyData.shownAll (xs.map item))
  rw [sizeLine_eq]
  omega
theorem items_rows (L : List (List Nat)) : items (L.map some) = .list (L.map nrow) := by
  unfold items
  rw [List.map_map]
  rfl
theorem tells_rows {L : List (List Nat)} (h : ∀ r ∈ L, smallR r) (hl : L.length ≤ 10000) : tells (.list (L.map nrow)) := by
  rw [← items_rows]
  refine tells_items (fun x hx => ?_) (by rw [List.length_map]; exact hl)
  obtain ⟨r, hr, rfl⟩ := List.mem_map.mp hx
  exact h r hr
theorem tells_tup {L : List (List Nat)} (h : ∀ r ∈ L, smallR r) (hl : L.length ≤ 10000) : tells (.tuple (L.map nrow)) := by
  have h0 := tells_rows h hl
  obtain ⟨h1, h2⟩ := items_piled (xs := L.map some) (fun x hx => by
    obtain ⟨r, hr, rfl⟩ := List.mem_map.mp hx
    exact h r hr)
  have e : (L.map some).map item = L.map nrow := by rw [List.map_map]; rfl
  rw [e, List.length_map] at h1
  rw [e] at h2
  have hb := items_lay (L.map some)
  rw [items_rows] at hb
  refine ⟨.inl hb.1, h2, ?_, by have : (PyData.tuple (L.map nrow)).depth = (PyData.list (L.map nrow)).depth := rfl; omega⟩
  show (tupleText (PyData.shownAll (L.map nrow))).length ≤ _
  have := tupleText_le (PyData.shownAll (L.map nrow))
  rw [sizeLine_eq]
  omega
theorem tells_none : tells .none := ⟨.inl rfl, rfl, by show (("None" : String) : Str).length ≤ sizeLine; rw [sizeLine_eq]; decide, Nat.zero_le _⟩
theorem tells_emptyD : tells (.dict []) := ⟨.inr rfl, rfl, by decide +kernel, by decide⟩
theorem tells_word : tells (.str "rows") := ⟨.inl (by decide +kernel), rfl, by decide +kernel, Nat.zero_le _⟩
theorem tells_row {r : List Nat} (h : smallR r) : tells (nrow r) := by
  obtain ⟨h1, h2⟩ := row_shown h
  exact ⟨.inl (item_lay (some r)).1, h2, by rw [sizeLine_eq]; omega, by rw [nrow_depth]; decide⟩
end K75
set_option Elab.async false
set_option autoImplicit false
set_option linter.all false
set_option maxRecDepth 100000
set_option maxHeartbeats 4000000
namespace Bv
open PySem PySem.Spec PyProof.Rows L2
section
variable {X : Cx} {Γ : En} {a b : Expr} {pos : Pos}
theorem bt_neSame {x : Str} (ha : BV X a Γ (.str x)) (hb : BV X b Γ (.str x)) (hm : behindInMarks .NotEq b = false := by rfl) : BT X (.Compare a [.NotEq] [b] pos) Γ false :=
  bt_cmp op_ne ha hb hm fun σ H0 B H v1 v2 s g1 g2 Q q => by
    cases g1
    cases g2
    exact ⟨rfl, by rw [decide_eq_true rfl]; exact q⟩
end
end Bv
/-! K20b: the last for of _law_rows_right. -/
namespace K75
open PySem PySem.Spec PyProof.Rows L2 Bv

def OkD (d : PyData) : Prop := tells d ∧ (isA "list" d = false ∨ ∃ xs : List Item, d = items xs ∧ xs.length ≤ 10000 ∧ ∀ x ∈ xs, smallI x)
def enc3 (q : List Nat × List Nat × PyData) : PyData := .tuple [nrow q.1, nrow q.2.1, q.2.2]
abbrev part (a b : Nat) : List Stmt := ((defBody (top 40)).drop a).take b
section
variable {P : Program} {w : World} {K : PySem.W.Frag} {mg : Str → Option Value} {base : Heap} {k : Nat} {f : Addr} {fd : FuncData}
theorem rr_for {cdv : Value} {A : Around} {outer : List Env} {s0 : Shared} {H : Hp} {E : XK} {n : Nat} {pc : List PyData} {e2 e3 e4 e5 e6 e7 e8 t10 t11 t12 t13 t14 : Ent} {L0 : List (List Nat × List Nat × PyData)} (hgd : A.guards = some []) (hr : Room 9 (cxOf CX0 P w K mg base N40 "_law_rows_right" (defScope (top 40)) f cdv A outer s0 H E).nox.A) (m_repr : mg "repr" = none)
    (C_lis_moves : Calls P w K mg base 3 "_law_is_moves" S_lis_moves) (C_exact : Calls P w K mg base 2 "_law_exact" (S_exact 1)) (C_irom : Calls P w K mg base 7 "is_row_of_moves" S_irom) (CK_irom : CallsK P w K mg base 7 "is_row_of_moves" ["value", "other", "one", "many"] g4r S_irom)
    (h1 : 1 ≤ n) (h2 : n ≤ 5) (hL : ∀ q ∈ L0, isRow n q.1 = true ∧ isRow n q.2.1 = true ∧ smallR q.1 ∧ smallR q.2.1 ∧ OkD q.2.2) :
    SV (cxOf CX0 P w K mg base N40 "_law_rows_right" (defScope (top 40)) f cdv A outer s0 H E).nox [0, 5] (part 6 1) [.own pc, .dat (.int (n : Nat)), e2, e3, e4, e5, e6, e7, e8, .own (L0.map enc3), t10, t11, t12, t13, t14]
      { nx := fun Γ' => ∃ (t6 t9 t11 t12 t13 t14 : Ent), Γ' = [.own pc, .dat (.int (n : Nat)), e2, e3, e4, e5, t6, e7, e8, t9, t10, t11, t12, t13, t14], rt := fun _ _ => False } := by
  refine sv_freeze (i := 9) rfl ?_
  refine sv_for (L := L0) (enc := enc3) (is := [11, 12, 6]) (sp := fun q => [nrow q.1, nrow q.2.1, q.2.2]) PassesOwn.never rfl (pi_list pe_can) (gv_list (bv_v 9 rfl)) (by decide) (fun q _ => bg_tup rfl (pgs3 (pg_name (i := 11) sc40.nd rfl (.inl rfl)) (pg_name (i := 12) sc40.nd rfl (.inl rfl)) (pg_name (i := 6) sc40.nd rfl (.inl rfl))) rfl)
    (fun pre Γ1 => ∃ (e6 t11 t12 t13 t14 : Ent), Γ1 = [.own pc, .dat (.int (n : Nat)), e2, e3, e4, e5, e6, e7, e8, .dat (.list (L0.map enc3)), t10, t11, t12, t13, t14]) ⟨_, _, _, _, _, rfl⟩ ?_ ?_
  · rintro pre ⟨fi, la, d⟩ post Γ1 e ⟨e6, t11, t12, t13, t14, rfl⟩
    obtain ⟨rf, rl, sf, sl, ⟨td, hd⟩⟩ := hL (fi, la, d) (by rw [e]; exact List.mem_append_right _ List.mem_cons_self)
    simp only at rf rl sf sl td hd
    obtain ⟨due, D1, D2⟩ : ∃ due : Bool, S_lis_moves ([PyData.int (n : Nat), nrow fi, nrow la, d].map .dat) (fun r' _ => r' = .dat (.bool due)) ∧ S_irom ([PyData.int (n : Nat), nrow fi, nrow la, d].map .dat) (fun r' _ => r' = .dat (.bool due)) := by
      have hc : 1 ≤ n ∧ n ≤ 1000 ∧ fi.length ≤ 1000 ∧ la.length ≤ 1000 ∧ isRow n fi = true ∧ isRow n la = true := ⟨h1, by omega, by have := sf.1; omega, by have := sl.1; omega, rf, rl⟩
      rcases hd with hd | ⟨xs, rfl, hxl, hx⟩
      · exact ⟨false, ⟨n, fi, la, d, rfl, ⟨h1, by omega⟩, .inl ⟨hd, rfl⟩⟩, ⟨n, fi, la, d, rfl, hc, .inl ⟨hd, rfl⟩⟩⟩
      · have hs : ∀ x ∈ xs, short x := fun x hxm r er => by
          subst er
          have := (hx _ hxm).1
          omega
        exact ⟨pathOk n fi la xs, ⟨n, fi, la, _, rfl, ⟨h1, by omega⟩, .inr ⟨xs, rfl, by omega, hs, rfl⟩⟩, ⟨n, fi, la, _, rfl, hc, .inr ⟨xs, rfl, by omega, hs, rfl⟩⟩⟩
    refine sv_par (i := 13) (j := 14) rfl sc40.nd rfl rfl (by decide) rfl rfl ⟨by decide, by decide⟩ (BA.eva (ba_cons (br_own C_lis_moves (hr.mono (by decide)) (by rfl) (ba_cons (bv_v 1 rfl) (ba_cons (bv_v 11 rfl) (ba_cons (bv_v 12 rfl) (ba_cons (bv_v 6 rfl) ba_nil)))) D1) (ba_cons (bv_repr hgd (hu102 hr) (by rfl) m_repr (bv_v 6 rfl) td) ba_nil)) ⟨_, _, rfl, ⟨rfl, rfl⟩, ?_⟩)
    have D3 : S_exact 1 ([.list [.bool due, .bool due], .list [.bool due, .bool due]].map .dat) fun r' _ => r' = .dat (.bool true) := ⟨_, rfl, .inr ⟨_, rfl, Nat.le_of_ble_eq_true rfl, fun x hx => .inr ⟨due, by simpa using hx⟩⟩, rfl⟩
    refine sv_when (BT.is (d := false) (bw_t (bw_or (bt_not (bt_val (br_own C_exact (hr.mono (by decide)) (by rfl) (ba_cons (br_give (br_lst (ba_cons (bv_v 13 rfl) (ba_cons (bv_v 13 rfl) ba_nil)) (by first | exact Nat.le_of_ble_eq_true rfl | decide | assumption | (simp [sizeLine_eq]; omega)))) (ba_cons (br_give (br_lst (ba_cons (br_own C_irom (hr.mono (by decide)) (by rfl) (ba_cons (bv_v 1 rfl) (ba_cons (bv_v 11 rfl) (ba_cons (bv_v 12 rfl) (ba_cons (bv_v 6 rfl) ba_nil)))) D2) (ba_cons (br_ownK CK_irom (hr.mono (by decide)) (by rfl) (bk_cons (bv_v 6 rfl) (bk_cons (bv_v 12 rfl) (bk_cons (bv_v 11 rfl) (bk_cons (bv_v 1 rfl) bk_nil)))) (fun B zs z => g4r_rp z) D2) ba_nil)) (Nat.le_of_ble_eq_true rfl))) ba_nil)) D3))) (fun _ => bw_or1 (bt_neSame (bv_repr hgd (hu102 hr) (by rfl) m_repr (bv_v 6 rfl) td) (bv_v 14 rfl))))) rfl) (fun c => by cases c) (fun _ => sv_nil ⟨.dat d, .dat (nrow fi), .dat (nrow la), .dat (.bool due), .dat (.str d.shown), rfl⟩)
  · rintro Γ1 ⟨e6', t11, t12, t13, t14, rfl⟩
    exact sv_nil ⟨e6', _, t11, t12, t13, t14, rfl⟩
end
end K75
set_option Elab.async false
set_option autoImplicit false
set_option linter.all false
set_option maxRecDepth 100000
set_option maxHeartbeats 4000000
/-! K20c: the odd values of _law_rows_right. -/
namespace K75
open PySem PySem.Spec PyProof.Rows L2 Bv

theorem okD_items {xs : List Item} (h : ∀ x ∈ xs, smallI x) (hl : xs.length ≤ 10000) : OkD (items xs) := ⟨tells_items h hl, .inr ⟨xs, rfl, hl, h⟩⟩
theorem okD_rows {L : List (List Nat)} (h : ∀ r ∈ L, smallR r) (hl : L.length ≤ 10000) : OkD (.list (L.map nrow)) := by
  rw [← items_rows]
  refine okD_items (fun x hx => ?_) (by rw [List.length_map]; exact hl)
  obtain ⟨r, hr, rfl⟩ := List.mem_map.mp hx
  exact h r hr
theorem isA_no {T : String} {d : PyData} (hT : Bv.typeName d = T) (h : (kitB T "list").getD false = false) : isA "list" d = false := by
  unfold isA
  rw [hT]
  exact h
def odds (T1 : List (List Nat)) (other : List Nat) (at1 : Nat) : List PyData := [PyData.none, .list [], .tuple [], .dict [], .str "rows", .tuple (T1.map nrow), .list (cutL (T1.map nrow) none (some (at1 : Int)) ++ cutL (T1.map nrow) (some ((at1 : Int) + 1)) none), .list (cutL (T1.map nrow) none (some ((at1 : Int) + 1)) ++ cutL (T1.map nrow) (some (at1 : Int)) none), .list (T1.map nrow ++ [.none]), .list (T1.map nrow ++ [.list (nums other ++ [.int 0])]), .list [.list (nums other)]]
theorem odds_ok {T1 : List (List Nat)} {other : List Nat} (hT : ∀ r ∈ T1, smallR r) (hl : T1.length ≤ 800) (ho : smallR other) (ho2 : other.length ≤ 19) (at1 : Nat) : ∀ d ∈ odds T1 other at1, OkD d := by
  have hsub : ∀ M : List (List Nat), (∀ r ∈ M, r ∈ T1) → M.length ≤ 2000 → OkD (.list (M.map nrow)) := fun M hM hl2 => okD_rows (fun r hr => hT r (hM r hr)) (by omega)
  have e6 : PyData.list (cutL (T1.map nrow) none (some (at1 : Int)) ++ cutL (T1.map nrow) (some ((at1 : Int) + 1)) none) = .list ((T1.take at1 ++ T1.drop (at1 + 1)).map nrow) := by
    rw [cut_to _ at1 rfl, cut_from _ (at1 + 1) (i := (at1 : Int) + 1) (by omega), List.map_append, List.map_take, List.map_drop]
  have e7 : PyData.list (cutL (T1.map nrow) none (some ((at1 : Int) + 1)) ++ cutL (T1.map nrow) (some (at1 : Int)) none) = .list ((T1.take (at1 + 1) ++ T1.drop at1).map nrow) := by
    rw [cut_to _ (at1 + 1) (i := (at1 : Int) + 1) (by omega), cut_from _ at1 rfl, List.map_append, List.map_take, List.map_drop]
  have e8 : PyData.list (T1.map nrow ++ [.none]) = items (T1.map some ++ [none]) := by
    unfold items
    rw [List.map_append, List.map_map]
    rfl
  have e9 : PyData.list (T1.map nrow ++ [.list (nums other ++ [.int 0])]) = .list ((T1 ++ [other ++ [0]]).map nrow) := by
    rw [List.map_append]
    show _ = PyData.list (T1.map nrow ++ [.list (nums (other ++ [0]))])
    unfold nums
    rw [List.map_append]
    rfl
  have mem1 : ∀ r ∈ T1.take at1 ++ T1.drop (at1 + 1), r ∈ T1 := fun r hr => (List.mem_append.mp hr).elim List.mem_of_mem_take List.mem_of_mem_drop
  have mem2 : ∀ r ∈ T1.take (at1 + 1) ++ T1.drop at1, r ∈ T1 := fun r hr => (List.mem_append.mp hr).elim List.mem_of_mem_take List.mem_of_mem_drop
  have so : smallR (other ++ [0]) := ⟨by rw [List.length_append, List.length_singleton]; omega, fun k hk => by
    rcases List.mem_append.mp hk with hk | hk
    · exact ho.2 k hk
    · rw [List.mem_singleton.mp hk]; decide⟩
  unfold odds
  rw [e6, e7, e8, e9]
  refine List.forall_mem_cons.mpr ⟨⟨tells_none, .inl (isA_no rfl (by decide +kernel))⟩, ?_⟩
  refine List.forall_mem_cons.mpr ⟨okD_rows (L := []) (fun r h => nomatch h) (Nat.zero_le _), ?_⟩
  refine List.forall_mem_cons.mpr ⟨⟨tells_tup (L := []) (fun r h => nomatch h) (Nat.zero_le _), .inl (isA_no rfl (by decide +kernel))⟩, ?_⟩
  refine List.forall_mem_cons.mpr ⟨⟨tells_emptyD, .inl (isA_no rfl (by decide +kernel))⟩, ?_⟩
  refine List.forall_mem_cons.mpr ⟨⟨tells_word, .inl (isA_no rfl (by decide +kernel))⟩, ?_⟩
  refine List.forall_mem_cons.mpr ⟨⟨tells_tup hT (by omega), .inl (isA_no (T := "tuple") rfl (by decide +kernel))⟩, ?_⟩
  refine List.forall_mem_cons.mpr ⟨hsub _ mem1 (by rw [List.length_append, List.length_take, List.length_drop]; omega), ?_⟩
  refine List.forall_mem_cons.mpr ⟨hsub _ mem2 (by rw [List.length_append, List.length_take, List.length_drop]; omega), ?_⟩
  refine List.forall_mem_cons.mpr ⟨okD_items (fun x hx => ?_) (by rw [List.length_append, List.length_map, List.length_singleton]; omega), ?_⟩
  · rcases List.mem_append.mp hx with hx | hx
    · obtain ⟨r, hr, rfl⟩ := List.mem_map.mp hx
      exact hT r hr
    · rw [List.mem_singleton.mp hx]; trivial
  refine List.forall_mem_cons.mpr ⟨okD_rows (fun r hr => ?_) (by rw [List.length_append, List.length_singleton]; omega), ?_⟩
  · rcases List.mem_append.mp hr with hr | hr
    · exact hT r hr
    · rw [List.mem_singleton.mp hr]; exact so
  refine List.forall_mem_cons.mpr ⟨okD_rows (L := [other]) (fun r hr => by rw [List.mem_singleton.mp hr]; exact ho) (Nat.le_of_ble_eq_true rfl), fun d hd => nomatch hd⟩
end K75
set_option Elab.async false
set_option autoImplicit false
set_option linter.all false
set_option maxRecDepth 100000
set_option maxHeartbeats 4000000
/-! M1: moves keep rows. No program in sight. -/
namespace K75
open PySem PySem.Spec PyProof.Rows L2 Bv
theorem exch_get {o : List Nat} {k : Nat} (h : k + 1 < o.length) (i : Nat) : (exch o k).getD i 0 = if i = k then o.getD (k + 1) 0 else if i = k + 1 then o.getD k 0 else o.getD i 0 := by
  have hk : (o.take k).length = k := by rw [List.length_take]; omega
  unfold exch
  simp only [List.getD_eq_getElem?_getD]
  by_cases c1 : i < k
  · rw [if_neg (by omega), if_neg (by omega), List.append_assoc, List.getElem?_append_left (by omega), List.getElem?_take_of_lt c1]
  · by_cases c2 : i = k
    · rw [if_pos c2, List.append_assoc, List.getElem?_append_right (by omega), hk, c2, Nat.sub_self]
      rfl
    · by_cases c3 : i = k + 1
      · rw [if_neg c2, if_pos c3, List.append_assoc, List.getElem?_append_right (by omega), hk, c3, Nat.add_sub_cancel_left]
        rfl
      · rw [if_neg c2, if_neg c3, List.getElem?_append_right (by rw [List.length_append, hk]; simp only [List.length_cons, List.length_nil]; omega), List.getElem?_drop, List.length_append, hk]
        simp only [List.length_cons, List.length_nil]
        rw [show k + 2 + (i - (k + (0 + 1 + 1))) = i by omega]
theorem ext0 {a b : List Nat} (hl : a.length = b.length) (h : ∀ i, a.getD i 0 = b.getD i 0) : a = b := by
  refine List.ext_getElem hl fun i h1 h2 => ?_
  have := h i
  simpa only [List.getD_eq_getElem?_getD, List.getElem?_eq_getElem h1, List.getElem?_eq_getElem h2, Option.getD_some] using this
def aft (o w : List Nat) : List Nat := w.foldl exch o
theorem runs_append (w1 w2 : List Nat) : ∀ o : List Nat, runs o (w1 ++ w2) = (runs o w1 && runs (aft o w1) w2) := by
  induction w1 with
  | nil => intro o; rfl
  | cons k w ih => intro o; show (_ && runs (exch o k) (w ++ w2)) = ((_ && runs (exch o k) w) && runs (aft (exch o k) w) w2); rw [ih, Bool.and_assoc]
theorem aft_len (w : List Nat) : ∀ o : List Nat, (∀ k ∈ w, k + 1 < o.length) → (aft o w).length = o.length := by
  induction w with
  | nil => intro o _; rfl
  | cons k w ih =>
    intro o h
    have h1 := exch_len (h k (List.mem_cons_self ..))
    show (aft (exch o k) w).length = _
    rw [ih _ (fun j hj => by rw [h1]; exact h j (List.mem_cons_of_mem _ hj)), h1]
theorem runs_mid {o w1 m m' w2 : List Nat} (h1 : ∀ k ∈ w1, k + 1 < o.length) (h2 : ∀ x : List Nat, x.length = o.length → runs x m = runs x m' ∧ aft x m = aft x m') : runs o (w1 ++ m ++ w2) = runs o (w1 ++ m' ++ w2) := by
  have e := h2 (aft o w1) (aft_len w1 o h1)
  rw [List.append_assoc, List.append_assoc, runs_append, runs_append, runs_append, runs_append m', e.1, e.2]
theorem far_mid {x : List Nat} {a b : Nat} (ha : a + 1 < x.length) (hb : b + 1 < x.length) (h : farB a b = true) : runs x [a, b] = runs x [b, a] ∧ aft x [a, b] = aft x [b, a] := by
  have hf := of_decide_eq_true h
  have l1 := exch_len ha
  have l2 := exch_len hb
  have h3 : b + 1 < (exch x a).length := by omega
  have h4 : a + 1 < (exch x b).length := by omega
  constructor
  · simp only [runs, exch_get ha, exch_get hb, Bool.and_true]
    rw [if_neg (by omega), if_neg (by omega), if_neg (by omega), if_neg (by omega), if_neg (by omega), if_neg (by omega), if_neg (by omega), if_neg (by omega), Bool.and_comm]
  · refine ext0 ?_ fun i => ?_
    · show (exch (exch x a) b).length = (exch (exch x b) a).length
      rw [exch_len h3, exch_len h4, l1, l2]
    · show (exch (exch x a) b).getD i 0 = (exch (exch x b) a).getD i 0
      rw [exch_get h3, exch_get h4]
      simp only [exch_get ha, exch_get hb]
      rw [if_neg (show ¬ b + 1 = a by omega), if_neg (show ¬ b + 1 = a + 1 by omega), if_neg (show ¬ b = a by omega), if_neg (show ¬ b = a + 1 by omega), if_neg (show ¬ a + 1 = b by omega), if_neg (show ¬ a + 1 = b + 1 by omega), if_neg (show ¬ a = b by omega), if_neg (show ¬ a = b + 1 by omega)]
      by_cases c1 : i = a
      · rw [if_neg (by omega), if_neg (by omega), if_pos c1, if_pos c1]
      · by_cases c2 : i = a + 1
        · rw [if_neg (by omega), if_neg (by omega), if_neg c1, if_pos c2, if_neg c1, if_pos c2]
        · rw [if_neg c1, if_neg c2, if_neg c1, if_neg c2]
theorem near_mid {x : List Nat} {a : Nat} (ha : a + 2 < x.length) : runs x [a, a + 1, a] = runs x [a + 1, a, a + 1] ∧ aft x [a, a + 1, a] = aft x [a + 1, a, a + 1] := by
  have h1 : a + 1 < x.length := by omega
  have h2 : a + 1 + 1 < x.length := ha
  have l1 := exch_len h1
  have l2 := exch_len h2
  have h3 : a + 1 + 1 < (exch x a).length := by omega
  have h4 : a + 1 < (exch x (a + 1)).length := by omega
  have l3 := exch_len h3
  have l4 := exch_len h4
  have n1 : ¬ a + 1 + 1 = a := by omega
  have n2 : ¬ a = a + 1 := by omega
  have n3 : ¬ a + 1 + 1 = a + 1 := by omega
  have n4 : ¬ a = a + 1 + 1 := by omega
  have n5 : ¬ a + 1 = a := by omega
  have n6 : ¬ a + 1 = a + 1 + 1 := by omega
  have l5 : a + 1 < (exch (exch x a) (a + 1)).length := by omega
  have l6 : a + 1 + 1 < (exch (exch x (a + 1)) a).length := by omega
  constructor
  · simp only [runs, exch_get h1, exch_get h2, exch_get h3, exch_get h4, Bool.and_true, if_neg n1, if_neg n2, if_neg n3, if_neg n4, if_neg n5, if_neg n6, if_true]
    exact (show ∀ A B C : Bool, (A && (B && C)) = (C && (B && A)) by decide) _ _ _
  · refine ext0 ?_ fun i => ?_
    · show (exch (exch (exch x a) (a + 1)) a).length = (exch (exch (exch x (a + 1)) a) (a + 1)).length
      rw [exch_len l5, exch_len l6, l3, l4, l1, l2]
    · show (exch (exch (exch x a) (a + 1)) a).getD i 0 = (exch (exch (exch x (a + 1)) a) (a + 1)).getD i 0
      rw [exch_get l5, exch_get l6]
      simp only [exch_get h1, exch_get h2, exch_get h3, exch_get h4, if_neg n1, if_neg n2, if_neg n3, if_neg n4, if_neg n5, if_neg n6, if_true]
      by_cases c1 : i = a
      · subst c1
        simp only [if_neg n1, if_neg n2, if_neg n3, if_neg n4, if_neg n5, if_neg n6, if_true]
      · by_cases c2 : i = a + 1
        · subst c2
          simp only [if_neg n1, if_neg n2, if_neg n3, if_neg n4, if_neg n5, if_neg n6, if_true]
        · by_cases c3 : i = a + 1 + 1
          · subst c3
            simp only [if_neg n1, if_neg n2, if_neg n3, if_neg n4, if_neg n5, if_neg n6, if_true]
          · simp only [if_neg c1, if_neg c2, if_neg c3]
theorem get_mem {r : List Nat} {k : Nat} (h : k < r.length) : r.getD k 0 ∈ r := by
  rw [List.getD_eq_getElem?_getD, List.getElem?_eq_getElem h]
  exact List.getElem_mem h
/-- a row of moves is cut at its place -/
theorem cut2 {r : List Nat} {k : Nat} (h : k + 1 < r.length) : r = r.take k ++ [r.getD k 0, r.getD (k + 1) 0] ++ r.drop (k + 2) := by
  have h1 : k < r.length := by omega
  conv => lhs; rw [← List.take_append_drop k r, List.drop_eq_getElem_cons h1, List.drop_eq_getElem_cons h]
  simp only [List.getD_eq_getElem?_getD, List.getElem?_eq_getElem h1, List.getElem?_eq_getElem h, Option.getD_some, List.append_assoc, List.cons_append, List.nil_append]
theorem cut3 {r : List Nat} {k : Nat} (h : k + 2 < r.length) : r = r.take k ++ [r.getD k 0, r.getD (k + 1) 0, r.getD (k + 2) 0] ++ r.drop (k + 3) := by
  have h1 : k < r.length := by omega
  have h2 : k + 1 < r.length := by omega
  conv => lhs; rw [← List.take_append_drop k r, List.drop_eq_getElem_cons h1, List.drop_eq_getElem_cons h2, List.drop_eq_getElem_cons h]
  simp only [List.getD_eq_getElem?_getD, List.getElem?_eq_getElem h1, List.getElem?_eq_getElem h2, List.getElem?_eq_getElem h, Option.getD_some, List.append_assoc, List.cons_append, List.nil_append]
theorem all_perm {n : Nat} {r m m' a b : List Nat} (e : r = a ++ m ++ b) (h : below n r = true) (hm : ∀ k ∈ m', k ∈ m) (hl : m'.length = m.length) : below n (a ++ m' ++ b) = true := by
  unfold below at h ⊢
  obtain ⟨h1, h2⟩ := Bool.and_eq_true_iff.mp h
  have h1 := eq_of_beq h1
  rw [List.all_eq_true] at h2
  refine Bool.and_eq_true_iff.mpr ⟨?_, ?_⟩
  · rw [← h1, e]
    simp only [List.length_append, hl, beq_self_eq_true]
  · rw [List.all_eq_true]
    intro k hk
    apply h2
    rw [e]
    simp only [List.mem_append] at hk ⊢
    rcases hk with (hk | hk) | hk
    · exact .inl (.inl hk)
    · exact .inl (.inr (hm k hk))
    · exact .inr hk
theorem below_lt {n : Nat} {r : List Nat} (h : below n r = true) : ∀ k ∈ r, k + 1 < n := fun k hk => of_decide_eq_true (List.all_eq_true.mp (Bool.and_eq_true_iff.mp h).2 k hk)
/-- a move of a row is a row -/
theorem row_move {n : Nat} {r : List Nat} {q : Bool × List Nat} (hr : isRow n r = true) (h : q ∈ mt r) : isRow n q.2 = true := by
  obtain ⟨hb, hu⟩ := Bool.and_eq_true_iff.mp hr
  have hlt := below_lt hb
  have hn : (List.range n).length = n := List.length_range
  rcases mem_mt.mp h with ⟨_, k, hk, hl⟩ | ⟨_, k, hk, hl⟩
  · unfold swapAt at hl
    split at hl
    case isFalse => cases hl
    case isTrue hf =>
      rw [List.mem_singleton.mp hl]
      have e := cut2 hk
      have m1 : r.getD k 0 ∈ r := get_mem (by omega)
      have m2 : r.getD (k + 1) 0 ∈ r := get_mem (by omega)
      refine Bool.and_eq_true_iff.mpr ⟨all_perm e hb (fun j hj => by simp only [List.mem_cons, List.not_mem_nil, or_false] at hj ⊢; omega) rfl, ?_⟩
      rw [← hu]
      conv => rhs; rw [e]
      unfold exch
      refine (runs_mid (fun j hj => by rw [hn]; exact hlt j (List.mem_of_mem_take hj)) fun x hx => ?_).symm
      exact far_mid (by rw [hx, hn]; exact hlt _ m1) (by rw [hx, hn]; exact hlt _ m2) hf
  · unfold threeAt at hl
    split at hl
    case isFalse => cases hl
    case isTrue hf =>
      obtain ⟨f1, f2⟩ := Bool.and_eq_true_iff.mp hf
      have f1 := of_decide_eq_true f1
      have f2 := of_decide_eq_true f2
      rw [List.mem_singleton.mp hl]
      have e := cut3 hk
      have m1 : r.getD k 0 ∈ r := get_mem (by omega)
      have m2 : r.getD (k + 1) 0 ∈ r := get_mem (by omega)
      rw [f1] at e
      refine Bool.and_eq_true_iff.mpr ⟨all_perm e hb (fun j hj => by simp only [List.mem_cons, List.not_mem_nil, or_false] at hj ⊢; omega) rfl, ?_⟩
      rw [← hu]
      conv => rhs; rw [e]
      unfold braid
      have b1 := hlt _ m1
      have b2 := hlt _ m2
      refine (runs_mid (fun j hj => by rw [hn]; exact hlt j (List.mem_of_mem_take hj)) fun x hx => ?_).symm
      rcases f2 with f2 | f2
      · rw [← f2]
        exact near_mid (by rw [hx, hn]; omega)
      · rw [← f2]
        have := near_mid (x := x) (a := r.getD (k + 1) 0) (by rw [hx, hn]; omega)
        exact ⟨this.1.symm, this.2.symm⟩
end K75
set_option Elab.async false
set_option autoImplicit false
set_option linter.all false
set_option maxRecDepth 100000
set_option maxHeartbeats 4000000
/-! M2: walks keep rows; rows of n <= 5 are short. No program in sight. -/
namespace K75
open PySem PySem.Spec PyProof.Rows L2 Bv
theorem step_row {n : Nat} {r l : List Nat} (hr : isRow n r = true) (h : stepIn r l = true) : isRow n l = true := by
  unfold stepIn at h
  obtain ⟨q, hq, e⟩ := List.any_eq_true.mp h
  rw [← of_decide_eq_true e]
  exact row_move hr hq
theorem steps_rows {n : Nat} : ∀ (L : List (List Nat)) (r : List Nat), steps (r :: L) = true → isRow n r = true → ∀ q ∈ r :: L, isRow n q = true
  | [], r, _, hr, q, hq => by rw [List.mem_singleton.mp hq]; exact hr
  | l :: L, r, h, hr, q, hq => by
    obtain ⟨h1, h2⟩ := Bool.and_eq_true_iff.mp (show (stepIn r l && steps (l :: L)) = true from h)
    rcases List.mem_cons.mp hq with rfl | hq
    · exact hr
    · exact steps_rows L l h2 (step_row hr h1) q hq
theorem walk_rows (n : Nat) (r : List Nat) (L : List (List Nat)) (h : Walk r L) (hr : isRow n r = true) : ∀ q ∈ L, isRow n q = true := by
  cases L with
  | nil => intro q hq; cases hq
  | cons a L =>
    have e : a = r := Option.some.inj h.1
    subst e
    exact steps_rows L a h.2.1 hr
theorem row_len {n : Nat} {r : List Nat} (hr : isRow n r = true) : r.length = n * (n - 1) / 2 := eq_of_beq (Bool.and_eq_true_iff.mp (Bool.and_eq_true_iff.mp hr).1).1
theorem row_small (n : Nat) (r : List Nat) (hn : n ≤ 5) (hr : isRow n r = true) : smallR r := by
  have h1 := row_len hr
  have h2 := below_lt (Bool.and_eq_true_iff.mp hr).1
  refine ⟨?_, fun k hk => by have := h2 k hk; omega⟩
  rw [h1]
  rcases (show n = 0 ∨ n = 1 ∨ n = 2 ∨ n = 3 ∨ n = 4 ∨ n = 5 by omega) with e | e | e | e | e | e <;> subst e <;> decide
end K75
set_option Elab.async false
set_option autoImplicit false
set_option linter.all false
set_option maxRecDepth 100000
set_option maxHeartbeats 4000000
/-! M3: drawing ascents ends in a row, for n <= 6. No program in sight. -/
namespace K75
open PySem PySem.Spec PyProof.Rows L2 Bv
def perms : Nat → List (List Nat)
  | 0 => [[]]
  | n + 1 => (perms n).flatMap fun p => (List.range (n + 1)).map fun i => p.take i ++ n :: p.drop i
/-- an order of the numbers below n -/
def isP : Nat → List Nat → Bool
  | 0, o => o.isEmpty
  | n + 1, o => o.contains n && isP n (o.erase n)
theorem isP_len : ∀ (n : Nat) (o : List Nat), isP n o = true → o.length = n
  | 0, o, h => by rw [List.isEmpty_iff.mp h]; rfl
  | n + 1, o, h => by
    obtain ⟨h1, h2⟩ := Bool.and_eq_true_iff.mp h
    have := isP_len n _ h2
    rw [List.length_erase_of_mem (List.contains_iff_mem.mp h1)] at this
    have : 0 < o.length := List.length_pos_of_mem (List.contains_iff_mem.mp h1)
    omega
theorem isP_mem : ∀ (n : Nat) (o : List Nat), isP n o = true → o ∈ perms n
  | 0, o, h => by rw [List.isEmpty_iff.mp h]; exact List.mem_singleton.mpr rfl
  | n + 1, o, h => by
    obtain ⟨h1, h2⟩ := Bool.and_eq_true_iff.mp h
    have ih := isP_mem n _ h2
    have hl := isP_len n _ h2
    obtain ⟨a, b, _, e1, e2⟩ := List.exists_erase_eq (List.contains_iff_mem.mp h1)
    rw [e2] at ih hl
    rw [List.length_append] at hl
    refine List.mem_flatMap.mpr ⟨a ++ b, ih, List.mem_map.mpr ⟨a.length, List.mem_range.mpr (by omega), ?_⟩⟩
    rw [e1, List.take_left' rfl, List.drop_left' rfl]
def inv (o : List Nat) : Nat := ((List.range o.length).map fun j => ((o.take j).filter fun a => decide (o.getD j 0 < a)).length).sum
def stepOk (n : Nat) (o : List Nat) : Bool := (decide (o = (List.range n).reverse) || (!(ascents n o).isEmpty && decide (inv o < n * (n - 1) / 2))) && (ascents n o).all fun k => isP n (exch o k) && (inv (exch o k) == inv o + 1) && decide (k + 1 < n) && decide (o.getD k 0 ≤ o.getD (k + 1) 0)
theorem steps_ok : ∀ n : Fin 7, (perms n.val).all (stepOk n.val) = true := by decide +kernel
theorem inv_le : ∀ n : Fin 7, (perms n.val).all (fun o => decide (inv o ≤ n.val * (n.val - 1) / 2)) = true := by decide +kernel
theorem inv_rev : ∀ n : Fin 7, (inv (List.range n.val).reverse == n.val * (n.val - 1) / 2 && isP n.val (List.range n.val) && inv (List.range n.val) == 0) = true := by decide +kernel
def JR (n : Nat) (o w : List Nat) : Prop := isP n o = true ∧ w.length = inv o ∧ (∀ k ∈ w, k + 1 < n) ∧ runs (List.range n) w = true ∧ aft (List.range n) w = o
theorem r_ok {n : Nat} (hn : n < 7) : ROk n (n * (n - 1) / 2) (JR n) := by
  have S := List.all_eq_true.mp (steps_ok ⟨n, hn⟩)
  have I := List.all_eq_true.mp (inv_le ⟨n, hn⟩)
  have R := inv_rev ⟨n, hn⟩
  simp only [Bool.and_eq_true, beq_iff_eq] at R
  refine ⟨⟨R.1.2, R.2.symm, (by intro k hk; cases hk), rfl, rfl⟩, fun o w hJ hne => ?_, fun o w hJ => ?_⟩
  · obtain ⟨h1, h2, h3, h4, h5⟩ := hJ
    have s := S o (isP_mem n o h1)
    simp only [stepOk, Bool.and_eq_true, Bool.or_eq_true, decide_eq_true_eq, beq_iff_eq, Bool.not_eq_true', List.isEmpty_eq_false_iff, List.all_eq_true] at s
    obtain ⟨s2, s3⟩ := s
    rcases s2 with s2 | s2
    · exact absurd s2 hne
    · refine ⟨s2.1, by rw [h2]; exact s2.2, fun k hk => ?_⟩
      obtain ⟨⟨⟨a1, a2⟩, a3⟩, a4⟩ := s3 k hk
      refine ⟨a1, by rw [List.length_append, h2, a2]; rfl, fun j hj => ?_, ?_, ?_⟩
      · rcases List.mem_append.mp hj with hj | hj
        · exact h3 j hj
        · rw [List.mem_singleton.mp hj]; exact a3
      · rw [runs_append, h4, h5]
        simp only [runs, Bool.and_true, Bool.true_and, decide_eq_true_eq]
        exact a4
      · unfold aft at h5 ⊢
        rw [List.foldl_append, h5]
        rfl
  · obtain ⟨h1, h2, _⟩ := hJ
    have i := of_decide_eq_true (I o (isP_mem n o h1))
    exact ⟨isP_len n o h1, by rw [h2]; exact i⟩
theorem r_row {n : Nat} (hn : n < 7) {u : List Nat} (h : JR n (List.range n).reverse u) : isRow n u = true := by
  have R := inv_rev ⟨n, hn⟩
  simp only [Bool.and_eq_true, beq_iff_eq] at R
  obtain ⟨_, h2, h3, h4, _⟩ := h
  refine Bool.and_eq_true_iff.mpr ⟨Bool.and_eq_true_iff.mpr ⟨?_, List.all_eq_true.mpr fun k hk => decide_eq_true (h3 k hk)⟩, h4⟩
  rw [h2, R.1.1]
  exact beq_self_eq_true _
end K75
set_option Elab.async false
set_option autoImplicit false
set_option linter.all false
set_option maxRecDepth 100000
set_option maxHeartbeats 4000000
/-! M4: the list of all rows of n; what is Nodup inside a list is no longer than it. No program in sight. -/
namespace K75
open PySem PySem.Spec PyProof.Rows L2 Bv
theorem nodup_len : ∀ {l m : List (List Nat)}, l.Nodup → (∀ x ∈ l, x ∈ m) → l.length ≤ m.length
  | [], _, _, _ => Nat.zero_le _
  | a :: l, m, hd, hs => by
    have ha := hs a List.mem_cons_self
    obtain ⟨h1, h2⟩ := List.nodup_cons.mp hd
    have h := nodup_len (l := l) (m := m.erase a) h2 fun x hx => (List.mem_erase_of_ne (show x ≠ a from fun e => h1 (by rw [← e]; exact hx))).mpr (hs x (List.mem_cons_of_mem _ hx))
    rw [List.length_erase_of_mem ha] at h
    have : 0 < m.length := List.length_pos_of_mem ha
    rw [List.length_cons]
    omega
def words (n : Nat) : Nat → List Nat → List (List Nat)
  | 0, _ => [[]]
  | b + 1, o => (List.range n).flatMap fun k => if o.getD k 0 ≤ o.getD (k + 1) 0 then (if k + 1 < n then (words n b (exch o k)).map (k :: ·) else []) else []
def count1 (n : Nat) : Nat → List Nat → Nat
  | 0, _ => 1
  | b + 1, o => ((List.range n).map fun k => if o.getD k 0 ≤ o.getD (k + 1) 0 then (if k + 1 < n then count1 n b (exch o k) else 0) else 0).sum
theorem words_count (n b : Nat) : ∀ o : List Nat, (words n b o).length = count1 n b o := by
  induction b with
  | zero => intro o; rfl
  | succ b ih =>
    intro o
    unfold words count1
    rw [List.length_flatMap]
    congr 1
    refine List.map_congr_left fun k _ => ?_
    split
    · split
      · rw [List.length_map, ih]
      · rfl
    · rfl
theorem mem_words {n : Nat} : ∀ (w o : List Nat), (∀ k ∈ w, k + 1 < n) → runs o w = true → w ∈ words n w.length o
  | [], _, _, _ => List.mem_singleton.mpr rfl
  | k :: w, o, h, hr => by
    obtain ⟨h1, h2⟩ := Bool.and_eq_true_iff.mp (show (decide (o.getD k 0 ≤ o.getD (k + 1) 0) && runs (exch o k) w) = true from hr)
    have hk := h k List.mem_cons_self
    refine List.mem_flatMap.mpr ⟨k, List.mem_range.mpr (by omega), ?_⟩
    rw [if_pos (of_decide_eq_true h1), if_pos hk]
    exact List.mem_map.mpr ⟨w, mem_words w _ (fun j hj => h j (List.mem_cons_of_mem _ hj)) h2, rfl⟩
def allRows (n : Nat) : List (List Nat) := words n (n * (n - 1) / 2) (List.range n)
theorem mem_allRows {n : Nat} {r : List Nat} (h : isRow n r = true) : r ∈ allRows n := by
  obtain ⟨hb, hu⟩ := Bool.and_eq_true_iff.mp h
  have := mem_words r (List.range n) (below_lt hb) hu
  rw [row_len h] at this
  exact this
theorem count_le : ∀ n : Fin 6, count1 n.val (n.val * (n.val - 1) / 2) (List.range n.val) ≤ 768 := by decide +kernel
theorem allRows_len {n : Nat} (hn : n < 6) : (allRows n).length ≤ 768 := by
  unfold allRows
  rw [words_count]
  exact count_le ⟨n, hn⟩
/-- many different rows of n are at most 768 -/
theorem rows_few {n : Nat} (hn : n < 6) {l : List (List Nat)} (hd : l.Nodup) (hr : ∀ r ∈ l, isRow n r = true) : l.length ≤ 768 :=
  Nat.le_trans (nodup_len hd fun r h => mem_allRows (hr r h)) (allRows_len hn)
end K75
set_option Elab.async false
set_option autoImplicit false
set_option linter.all false
set_option maxRecDepth 100000
set_option maxHeartbeats 4000000
/-! M5: the search of ways_from keeps its found rows different, and rows. No program in sight. -/
namespace K75
open PySem PySem.Spec PyProof.Rows L2 Bv
def keysF (fo : Found) : List (List Nat) := fo.map (·.1)
theorem has_iff {fo : Found} {l : List Nat} : has fo l = true ↔ l ∈ keysF fo := by
  unfold has keysF
  rw [List.any_eq_true, List.mem_map]
  constructor
  · rintro ⟨q, h1, h2⟩
    exact ⟨q, h1, of_decide_eq_true h2⟩
  · rintro ⟨q, h1, h2⟩
    exact ⟨q, h1, decide_eq_true h2⟩
theorem keys_add {fo : Found} {l : List Nat} {x : Option (List Nat)} (hd : (keysF fo).Nodup) (h : has fo l = false) : (keysF (fo ++ [(l, x)])).Nodup := by
  unfold keysF
  rw [List.map_append]
  refine List.nodup_append.mpr ⟨hd, List.nodup_cons.mpr ⟨List.not_mem_nil, List.nodup_nil⟩, fun a ha b hb e => ?_⟩
  rw [List.mem_singleton.mp hb] at e
  have : has fo l = true := has_iff.mpr (by rw [← show a = l from e]; exact ha)
  rw [h] at this
  cases this
/-- found: different rows of n -/
structure Good (n : Nat) (fo : Found) : Prop where
  nodup : (keysF fo).Nodup
  rows : ∀ r ∈ keysF fo, isRow n r = true
theorem good_add {n : Nat} {fo : Found} {l : List Nat} {x : Option (List Nat)} (g : Good n fo) (hl : isRow n l = true) (h : has fo l = false) : Good n (fo ++ [(l, x)]) := by
  refine ⟨keys_add g.nodup h, fun r hr => ?_⟩
  unfold keysF at hr
  rw [List.map_append] at hr
  rcases List.mem_append.mp hr with hr | hr
  · exact g.rows r hr
  · rw [List.mem_singleton.mp hr]; exact hl
theorem good_len {n : Nat} (hn : n < 6) {fo : Found} (g : Good n fo) : fo.length ≤ 768 := by
  have := rows_few hn g.nodup g.rows
  unfold keysF at this
  rwa [List.length_map] at this
theorem good_begStep {n : Nat} {s : Found × List (List Nat)} {q : List Nat × List Nat} (g : Good n s.1) (hl : isRow n q.2 = true) : Good n (begStep s q).1 := by
  unfold begStep
  cases h : has s.1 q.2 with
  | true => exact g
  | false => exact good_add g hl h
theorem good_inStep {n : Nat} {here : List Nat} {s : St3} {q : Bool × List Nat} (g : Good n s.1) (hl : isRow n q.2 = true) : Good n (inStep here s q).1 := by
  unfold inStep
  by_cases h1 : q.1 = true
  · rw [if_pos h1]; exact g
  · rw [if_neg h1]
    by_cases h2 : has s.1 q.2 = true
    · rw [if_pos h2]; exact g
    · rw [if_neg h2]; exact good_add g hl (by simpa using h2)
theorem good_begun {n : Nat} (later : List (List Nat × List Nat)) : ∀ s : Found × List (List Nat), Good n s.1 → (∀ q ∈ later, isRow n q.2 = true) → Good n (later.foldl begStep s).1 := by
  induction later with
  | nil => intro s g _; exact g
  | cons q later ih => intro s g h; exact ih _ (good_begStep g (h q List.mem_cons_self)) fun z hz => h z (List.mem_cons_of_mem _ hz)
theorem good_inner {n : Nat} {here : List Nat} (qs : List (Bool × List Nat)) : ∀ s : St3, Good n s.1 → (∀ q ∈ qs, isRow n q.2 = true) → Good n (qs.foldl (inStep here) s).1 := by
  induction qs with
  | nil => intro s g _; exact g
  | cons q qs ih => intro s g h; exact ih _ (good_inStep g (h q List.mem_cons_self)) fun z hz => h z (List.mem_cons_of_mem _ hz)
end K75
set_option Elab.async false
set_option autoImplicit false
set_option linter.all false
set_option maxRecDepth 100000
set_option maxHeartbeats 4000000
/-! M6: the search of ways_from ends. No program in sight. -/
namespace K75
open PySem PySem.Spec PyProof.Rows L2 Bv
/-- rows of n all over -/
structure G3 (n : Nat) (s : St3) : Prop where
  good : Good n s.1
  ahead : ∀ r ∈ s.2.1, isRow n r = true
  later : ∀ q ∈ s.2.2, isRow n q.2 = true
theorem g3_inStep {n : Nat} {here : List Nat} {s : St3} {q : Bool × List Nat} (g : G3 n s) (hl : isRow n q.2 = true) : G3 n (inStep here s q) ∧ (inStep here s q).1.length + s.2.1.length = s.1.length + (inStep here s q).2.1.length ∧ s.1.length ≤ (inStep here s q).1.length ∧ (inStep here s q).2.2.length ≤ s.2.2.length + 1 := by
  refine ⟨⟨good_inStep g.good hl, ?_, ?_⟩, ?_⟩
  · unfold inStep
    by_cases h1 : q.1 = true
    · rw [if_pos h1]; exact g.ahead
    · rw [if_neg h1]
      by_cases h2 : has s.1 q.2 = true
      · rw [if_pos h2]; exact g.ahead
      · rw [if_neg h2]
        intro r hr
        rcases List.mem_append.mp hr with hr | hr
        · exact g.ahead r hr
        · rw [List.mem_singleton.mp hr]; exact hl
  · unfold inStep
    by_cases h1 : q.1 = true
    · rw [if_pos h1]
      intro r hr
      rcases List.mem_append.mp hr with hr | hr
      · exact g.later r hr
      · rw [List.mem_singleton.mp hr]; exact hl
    · rw [if_neg h1]
      by_cases h2 : has s.1 q.2 = true
      · rw [if_pos h2]; exact g.later
      · rw [if_neg h2]; exact g.later
  · unfold inStep
    by_cases h1 : q.1 = true
    · rw [if_pos h1]; refine ⟨rfl, Nat.le_refl _, ?_⟩; simp
    · rw [if_neg h1]
      by_cases h2 : has s.1 q.2 = true
      · rw [if_pos h2]; exact ⟨rfl, Nat.le_refl _, Nat.le_succ _⟩
      · rw [if_neg h2]
        simp only [List.length_append, List.length_singleton]
        omega
theorem g3_inner {n : Nat} {here : List Nat} (qs : List (Bool × List Nat)) : ∀ s : St3, G3 n s → (∀ q ∈ qs, isRow n q.2 = true) → G3 n (qs.foldl (inStep here) s) ∧ (qs.foldl (inStep here) s).1.length + s.2.1.length = s.1.length + (qs.foldl (inStep here) s).2.1.length ∧ s.1.length ≤ (qs.foldl (inStep here) s).1.length ∧ (qs.foldl (inStep here) s).2.2.length ≤ s.2.2.length + qs.length := by
  induction qs with
  | nil => intro s g _; exact ⟨g, rfl, Nat.le_refl _, Nat.le_refl _⟩
  | cons q qs ih =>
    intro s g h
    obtain ⟨a1, a2, a3, a4⟩ := g3_inStep (here := here) g (h q List.mem_cons_self)
    obtain ⟨b1, b2, b3, b4⟩ := ih _ a1 fun z hz => h z (List.mem_cons_of_mem _ hz)
    rw [List.foldl_cons, List.length_cons]
    exact ⟨b1, by omega, by omega, by omega⟩
theorem begun_ok {n : Nat} (later : List (List Nat × List Nat)) : ∀ s : Found × List (List Nat), Good n s.1 → (∀ r ∈ s.2, isRow n r = true) → (∀ q ∈ later, isRow n q.2 = true) → (∀ r ∈ (later.foldl begStep s).2, isRow n r = true) ∧ (later.foldl begStep s).1.length + s.2.length = s.1.length + (later.foldl begStep s).2.length ∧ s.1.length ≤ (later.foldl begStep s).1.length := by
  induction later with
  | nil => intro s _ h _; exact ⟨h, rfl, Nat.le_refl _⟩
  | cons q later ih =>
    intro s g h1 h2
    have hq := h2 q List.mem_cons_self
    have g' := good_begStep (q := q) g hq
    have : (∀ r ∈ (begStep s q).2, isRow n r = true) ∧ (begStep s q).1.length + s.2.length = s.1.length + (begStep s q).2.length ∧ s.1.length ≤ (begStep s q).1.length := by
      unfold begStep
      cases h : has s.1 q.2 with
      | true => exact ⟨h1, rfl, Nat.le_refl _⟩
      | false =>
        refine ⟨fun r hr => ?_, ?_, ?_⟩
        · rcases List.mem_append.mp hr with hr | hr
          · exact h1 r hr
          · rw [List.mem_singleton.mp hr]; exact hq
        · show (s.1 ++ [(q.2, some q.1)]).length + _ = _ + (s.2 ++ [q.2]).length
          simp only [List.length_append, List.length_singleton]
          omega
        · show _ ≤ (s.1 ++ [(q.2, some q.1)]).length
          simp only [List.length_append, List.length_singleton]
          omega
    obtain ⟨b1, b2, b3⟩ := ih _ g' this.1 fun z hz => h2 z (List.mem_cons_of_mem _ hz)
    rw [List.foldl_cons]
    exact ⟨b1, by omega, by omega⟩
end K75
set_option Elab.async false
set_option autoImplicit false
set_option linter.all false
set_option maxRecDepth 100000
set_option maxHeartbeats 4000000
/-! M7: WOk of ways_from, by G3 alone. No program in sight. -/
namespace K75
open PySem PySem.Spec PyProof.Rows L2 Bv
structure JW (n : Nat) (s : St3) : Prop where
  g3 : G3 n s
  lat : s.2.2.length + 20 * s.2.1.length ≤ 20 * s.1.length
  ah : s.2.1.length ≤ s.1.length
def mW (s : St3) : Nat := 2 * (768 - s.1.length) + s.2.1.length
theorem jw_next {n : Nat} (hn : n < 6) {s : St3} (h : JW n s) : JW n (next s) ∧ mW (next s) ≤ mW s := by
  unfold next
  by_cases e : s.2.1 = []
  · rw [if_pos e]
    have hb := begun_ok (n := n) s.2.2 (s.1, []) h.g3.good (by intro r hr; cases hr) h.g3.later
    have gb := good_begun (n := n) s.2.2 (s.1, []) h.g3.good h.g3.later
    have lb := good_len hn gb
    obtain ⟨b1, b2, b3⟩ := hb
    have b2 : (begun s.1 s.2.2).1.length + 0 = s.1.length + (begun s.1 s.2.2).2.length := b2
    have b3 : s.1.length ≤ (begun s.1 s.2.2).1.length := b3
    have lb : (begun s.1 s.2.2).1.length ≤ 768 := lb
    refine ⟨⟨⟨gb, b1, by intro q hq; cases hq⟩, ?_, ?_⟩, ?_⟩
    · show 0 + 20 * (begun s.1 s.2.2).2.length ≤ 20 * (begun s.1 s.2.2).1.length
      omega
    · show (begun s.1 s.2.2).2.length ≤ (begun s.1 s.2.2).1.length
      omega
    · show 2 * (768 - (begun s.1 s.2.2).1.length) + (begun s.1 s.2.2).2.length ≤ 2 * (768 - s.1.length) + s.2.1.length
      rw [e, List.length_nil]
      omega
  · rw [if_neg e]
    exact ⟨h, Nat.le_refl _⟩
theorem jw_turn {n : Nat} (hn : n < 6) : ∀ {s : St3}, JW n s → s.2.1 ≠ [] → JW n (turn s) ∧ mW (turn s) < mW s := by
  rintro ⟨fo, ah, la⟩ h hne
  cases ah with
  | nil => exact absurd rfl hne
  | cons here rest =>
    have hh : isRow n here = true := h.g3.ahead here List.mem_cons_self
    have g0 : G3 n (fo, rest, la) := ⟨h.g3.good, fun r hr => h.g3.ahead r (List.mem_cons_of_mem _ hr), h.g3.later⟩
    have hi := g3_inner (here := here) (mt here) (fo, rest, la) g0 fun q hq => row_move hh hq
    have ml := mt_len here
    have sl := (row_small n here (by omega) hh).1
    have rl := row_len hh
    have r10 : here.length ≤ 10 := by
      rw [rl]
      rcases (show n = 0 ∨ n = 1 ∨ n = 2 ∨ n = 3 ∨ n = 4 ∨ n = 5 by omega) with e | e | e | e | e | e <;> subst e <;> decide
    obtain ⟨c1, c2, c3, c4⟩ := hi
    have lf := good_len hn c1.good
    have k1 := h.lat
    have k2 := h.ah
    simp only [List.length_cons] at k1 k2 c2 c3 c4
    have ji : JW n (inner here (fo, rest, la)) := ⟨c1, by unfold inner; omega, by unfold inner; omega⟩
    obtain ⟨d1, d2⟩ := jw_next hn ji
    refine ⟨d1, Nat.lt_of_le_of_lt d2 ?_⟩
    unfold mW inner
    simp only [List.length_cons]
    omega
theorem w_ok {n : Nat} (hn : n < 6) {one : List Nat} (h1 : isRow n one = true) : WOk one (JW n) mW := by
  refine ⟨⟨⟨⟨List.nodup_cons.mpr ⟨List.not_mem_nil, List.nodup_nil⟩, fun r hr => ?_⟩, fun r hr => ?_, by intro q hq; cases hq⟩, ?_, ?_⟩, fun s h hne => jw_turn hn h hne, fun s h => ?_, fun s h r hr => ?_⟩
  · rw [List.mem_singleton.mp hr]; exact h1
  · rw [List.mem_singleton.mp hr]; exact h1
  · show 0 + 20 * 1 ≤ 20 * 1
    omega
  · exact Nat.le_refl _
  · have l1 := good_len hn h.g3.good
    have l2 := h.lat
    have l3 := h.ah
    exact ⟨by omega, by omega⟩
  · have := (row_small n r (by omega) (h.g3.ahead r hr)).1
    omega
end K75
set_option Elab.async false
set_option autoImplicit false
set_option linter.all false
set_option maxRecDepth 100000
set_option maxHeartbeats 4000000
/-! M8: one more invariant beside JW; looking up what is added. No program in sight. -/
namespace K75
open PySem PySem.Spec PyProof.Rows L2 Bv
theorem w_and {one : List Nat} {J I : St3 → Prop} {meas : St3 → Nat} (W : WOk one J meas) (h0 : I ([(one, none)], [one], [])) (h1 : ∀ s, J s → I s → s.2.1 ≠ [] → I (turn s)) : WOk one (fun s => J s ∧ I s) meas :=
  ⟨⟨W.init, h0⟩, fun s h hne => ⟨⟨(W.step s h.1 hne).1, h1 s h.1 h.2 hne⟩, (W.step s h.1 hne).2⟩, fun s h => W.size s h.1, fun s h => W.short s h.1⟩
theorem look_old {fo : Found} {l a : List Nat} {x : Option (List Nat)} {y : Option (List Nat)} (h : look fo a = some y) : look (fo ++ [(l, x)]) a = some y := by
  unfold look at h ⊢
  rw [List.find?_append]
  cases e : fo.find? (fun q => decide (q.1 = a)) with
  | none => rw [e] at h; cases h
  | some z => rw [e] at h; exact h
theorem look_none {fo : Found} {l : List Nat} (h : has fo l = false) : look fo l = none := by
  unfold look
  have : fo.find? (fun q => decide (q.1 = l)) = none := by
    rw [List.find?_eq_none]
    intro q hq z
    have : has fo l = true := List.any_eq_true.mpr ⟨q, hq, z⟩
    rw [h] at this
    cases this
  rw [this]
  rfl
theorem look_new {fo : Found} {l : List Nat} {x : Option (List Nat)} (h : has fo l = false) : look (fo ++ [(l, x)]) l = some x := by
  have e := look_none h
  unfold look at e ⊢
  rw [List.find?_append]
  cases c : fo.find? (fun q => decide (q.1 = l)) with
  | none =>
    simp
  | some z => rw [c] at e; cases e
end K75
set_option Elab.async false
set_option autoImplicit false
set_option linter.all false
set_option maxRecDepth 100000
set_option maxHeartbeats 4000000
/-! M9: what is reached with so many braids. No program in sight. -/
namespace K75
open PySem PySem.Spec PyProof.Rows L2 Bv
inductive Reach (one : List Nat) : Nat → List Nat → Prop where
  | base : Reach one 0 one
  | zero {c : Nat} {r l : List Nat} : Reach one c r → (false, l) ∈ mt r → Reach one c l
  | three {c : Nat} {r l : List Nat} : Reach one c r → (true, l) ∈ mt r → Reach one (c + 1) l
theorem reach_row {n : Nat} {one : List Nat} (h1 : isRow n one = true) {c : Nat} {r : List Nat} (h : Reach one c r) : isRow n r = true := by
  induction h with
  | base => exact h1
  | zero _ hm ih => exact row_move ih hm
  | three _ hm ih => exact row_move ih hm
/-- a set that holds one and is closed under moves holds all that is reached -/
theorem reach_closed {one : List Nat} {S : List Nat → Prop} (h0 : S one) (hc : ∀ r, S r → ∀ q ∈ mt r, S q.2) {c : Nat} {r : List Nat} (h : Reach one c r) : S r := by
  induction h with
  | base => exact h0
  | zero _ hm ih => exact hc _ ih _ hm
  | three _ hm ih => exact hc _ ih _ hm
/-- the fewest braids -/
def Dist (one r : List Nat) (d : Nat) : Prop := Reach one d r ∧ ∀ c, Reach one c r → d ≤ c
theorem dist_uniq {one r : List Nat} {d e : Nat} (h1 : Dist one r d) (h2 : Dist one r e) : d = e := Nat.le_antisymm (h1.2 _ h2.1) (h2.2 _ h1.1)
theorem stepCost_zero {r l : List Nat} (h : (false, l) ∈ mt r) : stepCost r l = 0 := by
  unfold stepCost
  rw [if_pos (List.any_eq_true.mpr ⟨_, h, by simp⟩)]
theorem stepCost_one {r l : List Nat} (h : (false, l) ∉ mt r) : stepCost r l = 1 := by
  unfold stepCost
  rw [if_neg]
  intro z
  obtain ⟨⟨b, m⟩, h1, h2⟩ := List.any_eq_true.mp z
  simp only [Bool.and_eq_true, Bool.not_eq_true', decide_eq_true_eq] at h2
  obtain ⟨rfl, rfl⟩ := h2
  exact h h1
end K75
set_option Elab.async false
set_option autoImplicit false
set_option linter.all false
set_option maxRecDepth 100000
set_option maxHeartbeats 4000000
/-! M10: the cost of a way grown by one row. No program in sight. -/
namespace K75
open PySem PySem.Spec PyProof.Rows L2 Bv
theorem cost_snoc {Z : List (List Nat)} {r l : List Nat} : pathCost (Z ++ [r] ++ [l]) = pathCost (Z ++ [r]) + stepCost r l := by
  unfold pathCost
  have e1 : (Z ++ [r] ++ [l]).length - 1 = Z.length + 1 := by simp
  have e2 : (Z ++ [r]).length - 1 = Z.length := by simp
  rw [e1, e2]
  unfold costTo
  rw [List.range_succ, List.map_append, List.sum_append]
  congr 1
  · congr 1
    refine List.map_congr_left fun i hi => ?_
    have hi := List.mem_range.mp hi
    have g : ∀ j, j ≤ Z.length → (Z ++ [r] ++ [l]).getD j [] = (Z ++ [r]).getD j [] := fun j hj => by
      rw [List.getD_eq_getElem?_getD, List.getD_eq_getElem?_getD, List.getElem?_append_left (by simp; omega)]
    rw [g i (by omega), g (i + 1) (by omega)]
  · simp
end K75
set_option Elab.async false
set_option autoImplicit false
set_option linter.all false
set_option maxRecDepth 100000
set_option maxHeartbeats 4000000
/-! M11: each found row has its way back; a row found now has it too. No program in sight. -/
namespace K75
open PySem PySem.Spec PyProof.Rows L2 Bv
/-- the way back from r, at cost d -/
structure Way (fo : Found) (one r : List Nat) (d : Nat) (L : List (List Nat)) : Prop where
  head : L[0]? = some r
  last : ∀ j a, L[j]? = some a → (a = one ↔ j + 1 = L.length)
  next : ∀ j a b, L[j]? = some a → L[j + 1]? = some b → look fo a = some (some b)
  size : L.length ≤ fo.length
  steps : steps L.reverse = true
  cost : pathCost L.reverse = d
  keys : ∀ q ∈ L, q ∈ keysF fo
theorem way_old {fo : Found} {one r l : List Nat} {x : Option (List Nat)} {d : Nat} {L : List (List Nat)} (h : Way fo one r d L) : Way (fo ++ [(l, x)]) one r d L :=
  ⟨h.head, h.last, fun j a b h1 h2 => look_old (h.next j a b h1 h2), by rw [List.length_append]; exact Nat.le_trans h.size (Nat.le_add_right _ _), h.steps, h.cost, fun q hq => by unfold keysF; rw [List.map_append]; exact List.mem_append_left _ (h.keys q hq)⟩
theorem way_new {fo : Found} {one here l : List Nat} {d : Nat} {L : List (List Nat)} (h : Way fo one here d L) (h1 : has fo one = true) (hl : has fo l = false) (hs : stepIn here l = true) : Way (fo ++ [(l, some here)]) one l (d + stepCost here l) (l :: L) := by
  have hne : l ≠ one := fun e => by rw [e, h1] at hl; cases hl
  obtain ⟨T, eT⟩ : ∃ T, L = here :: T := by
    cases L with
    | nil => cases h.head
    | cons a T => exact ⟨T, by rw [Option.some.inj h.head]⟩
  have er : (l :: L).reverse = T.reverse ++ [here] ++ [l] := by rw [eT, List.reverse_cons, List.reverse_cons]
  have er' : L.reverse = T.reverse ++ [here] := by rw [eT, List.reverse_cons]
  refine ⟨rfl, fun j a hj => ?_, fun j a b ha hb => ?_, ?_, ?_, ?_, fun q hq => ?_⟩
  · cases j with
    | zero =>
      rw [← Option.some.inj (show some l = some a from hj), List.length_cons]
      refine ⟨fun e => absurd e hne, fun e => ?_⟩
      rw [eT, List.length_cons] at e
      omega
    | succ j => rw [h.last j a hj, List.length_cons]; omega
  · cases j with
    | zero =>
      rw [← Option.some.inj (show some l = some a from ha), ← Option.some.inj (show some here = some b from by rw [← hb, List.getElem?_cons_succ]; exact h.head.symm)]
      exact look_new hl
    | succ j => exact look_old (h.next j a b ha hb)
  · rw [List.length_cons, List.length_append]; exact Nat.succ_le_succ h.size
  · rw [er, ← er']
    exact steps_snoc h.steps (by rw [er']; simp) hs
  · rw [er, cost_snoc, ← er', h.cost]
  · unfold keysF
    rw [List.map_append]
    rcases List.mem_cons.mp hq with rfl | hq
    · exact List.mem_append_right _ List.mem_cons_self
    · exact List.mem_append_left _ (h.keys q hq)
end K75
set_option Elab.async false
set_option autoImplicit false
set_option linter.all false
set_option maxRecDepth 100000
set_option maxHeartbeats 4000000
/-! M12: the first way; Back from Way. No program in sight. -/
namespace K75
open PySem PySem.Spec PyProof.Rows L2 Bv
theorem way_one (one : List Nat) : Way [(one, none)] one one 0 [one] := by
  refine ⟨rfl, fun j a h => ?_, fun j a b h1 h2 => ?_, Nat.le_refl _, rfl, rfl, fun q hq => ?_⟩
  · cases j with
    | zero => exact ⟨fun _ => rfl, fun _ => (Option.some.inj (show some one = some a from h)).symm⟩
    | succ j => cases h
  · cases h2
  · exact hq
theorem way_back {fo : Found} {one r : List Nat} {d : Nat} {L : List (List Nat)} (h : Way fo one r d L) (hf : fo.length ≤ 768) : Back fo one r L :=
  ⟨h.head, h.last, h.next, by have := h.size; omega⟩
end K75
set_option Elab.async false
set_option autoImplicit false
set_option linter.all false
set_option maxRecDepth 100000
set_option maxHeartbeats 4000000
/-! M13: the labels of the search. No program in sight. -/
namespace K75
open PySem PySem.Spec PyProof.Rows L2 Bv
theorem keys_app {fo : Found} {l : List Nat} {x : Option (List Nat)} {r : List Nat} : r ∈ keysF (fo ++ [(l, x)]) ↔ r ∈ keysF fo ∨ r = l := by
  unfold keysF
  rw [List.map_append, List.mem_append]
  simp
theorem stepIn_of {r : List Nat} {q : Bool × List Nat} (h : q ∈ mt r) : stepIn r q.2 = true := List.any_eq_true.mpr ⟨q, h, decide_eq_true rfl⟩
theorem dist_new {one l : List Nat} {fo : Found} {c : Nat} (low : ∀ c' r, c' < c → Reach one c' r → r ∈ keysF fo) (h : Reach one c l) (hn : l ∉ keysF fo) : Dist one l c :=
  ⟨h, fun c' hc => Nat.le_of_not_lt fun hlt => hn (low c' l hlt hc)⟩
/-- at level c, with the rows of U under way -/
structure Lab (one : List Nat) (c : Nat) (U : List Nat → Prop) (s : St3) : Prop where
  one_in : one ∈ keysF s.1
  lab : ∀ r ∈ keysF s.1, ∃ d L, d ≤ c ∧ Dist one r d ∧ Way s.1 one r d L
  low : ∀ c' r, c' < c → Reach one c' r → r ∈ keysF s.1
  ahead : ∀ r ∈ s.2.1, r ∈ keysF s.1 ∧ Dist one r c
  later : ∀ q ∈ s.2.2, q.1 ∈ keysF s.1 ∧ Dist one q.1 c ∧ (true, q.2) ∈ mt q.1
  closed : ∀ r ∈ keysF s.1, r ∉ s.2.1 → ¬ U r → ∀ q ∈ mt r, q.2 ∈ keysF s.1 ∨ (q.1 = true ∧ ∃ z ∈ s.2.2, z.2 = q.2)
  early : ∀ r ∈ keysF s.1, ∀ d, d < c → Dist one r d → ∀ q ∈ mt r, q.2 ∈ keysF s.1
/-- what is seen to of a move -/
def Seen (s : St3) (q : Bool × List Nat) : Prop := q.2 ∈ keysF s.1 ∨ (q.1 = true ∧ ∃ z ∈ s.2.2, z.2 = q.2)
theorem lab_inStep {one here : List Nat} {c : Nat} {s : St3} {q : Bool × List Nat} (h : Lab one c (· = here) s) (hk : here ∈ keysF s.1) (hd : Dist one here c) (hq : q ∈ mt here) : Lab one c (· = here) (inStep here s q) ∧ here ∈ keysF (inStep here s q).1 ∧ Seen (inStep here s q) q ∧ ∀ z, Seen s z → Seen (inStep here s q) z := by
  obtain ⟨b, l⟩ := q
  unfold inStep
  by_cases h1 : b = true
  · subst h1
    rw [if_pos rfl]
    have up : ∀ {t : List Nat}, (∃ z ∈ s.2.2, z.2 = t) → ∃ z ∈ s.2.2 ++ [(here, l)], z.2 = t := fun ⟨z, z1, z2⟩ => ⟨z, List.mem_append_left _ z1, z2⟩
    refine ⟨⟨h.one_in, h.lab, h.low, h.ahead, fun z hz => ?_, fun r hr h2 h3 z hz => ?_, h.early⟩, hk, .inr ⟨rfl, (here, l), List.mem_append_right _ List.mem_cons_self, rfl⟩, fun z hz => ?_⟩
    · rcases List.mem_append.mp hz with hz | hz
      · exact h.later z hz
      · rw [List.mem_singleton.mp hz]; exact ⟨hk, hd, hq⟩
    · rcases h.closed r hr h2 h3 z hz with g | ⟨g1, g2⟩
      · exact .inl g
      · exact .inr ⟨g1, up g2⟩
    · rcases hz with g | ⟨g1, g2⟩
      · exact .inl g
      · exact .inr ⟨g1, up g2⟩
  · have h1 : b = false := by cases b; rfl; exact absurd rfl h1
    subst h1
    rw [if_neg (show ¬ (false = true) by decide)]
    by_cases h2 : has s.1 l = true
    · rw [if_pos h2]
      exact ⟨h, hk, .inl (has_iff.mp h2), fun z hz => hz⟩
    · rw [if_neg h2]
      have hn : l ∉ keysF s.1 := fun g => h2 (has_iff.mpr g)
      have hn' : has s.1 l = false := by simpa using h2
      have dl := dist_new h.low (Reach.zero hd.1 hq) hn
      have up : ∀ {t : List Nat}, t ∈ keysF s.1 → t ∈ keysF (s.1 ++ [(l, some here)]) := fun g => keys_app.mpr (.inl g)
      refine ⟨⟨up h.one_in, fun r hr => ?_, fun c' r hc hr => up (h.low c' r hc hr), fun r hr => ?_, fun z hz => ?_, fun r hr h3 h4 z hz => ?_, fun r hr d hdc hdr z hz => ?_⟩, up hk, .inl (keys_app.mpr (.inr rfl)), fun z hz => ?_⟩
      · rcases keys_app.mp hr with hr | rfl
        · obtain ⟨d, L, e1, e2, e3⟩ := h.lab r hr
          exact ⟨d, L, e1, e2, way_old e3⟩
        · obtain ⟨d, L, e1, e2, e3⟩ := h.lab here hk
          have ed : d = c := dist_uniq e2 hd
          have w := way_new e3 (has_iff.mpr h.one_in) hn' (stepIn_of hq)
          rw [stepCost_zero hq, ed] at w
          exact ⟨c, _, Nat.le_refl _, dl, w⟩
      · rcases List.mem_append.mp hr with hr | hr
        · exact ⟨up (h.ahead r hr).1, (h.ahead r hr).2⟩
        · rw [List.mem_singleton.mp hr]; exact ⟨keys_app.mpr (.inr rfl), dl⟩
      · exact ⟨up (h.later z hz).1, (h.later z hz).2⟩
      · rcases keys_app.mp hr with hr | rfl
        · rcases h.closed r hr (fun g => h3 (List.mem_append_left _ g)) h4 z hz with g | g
          · exact .inl (up g)
          · exact .inr g
        · exact absurd (List.mem_append_right _ List.mem_cons_self) h3
      · rcases keys_app.mp hr with hr | rfl
        · exact up (h.early r hr d hdc hdr z hz)
        · exact absurd (dist_uniq hdr dl) (by omega)
      · rcases hz with g | g
        · exact .inl (up g)
        · exact .inr g
theorem lab_inner {one here : List Nat} {c : Nat} (hd : Dist one here c) (qs : List (Bool × List Nat)) : ∀ s : St3, Lab one c (· = here) s → here ∈ keysF s.1 → (∀ q ∈ qs, q ∈ mt here) → Lab one c (· = here) (qs.foldl (inStep here) s) ∧ (∀ q ∈ qs, Seen (qs.foldl (inStep here) s) q) ∧ ∀ z, Seen s z → Seen (qs.foldl (inStep here) s) z := by
  induction qs with
  | nil => intro s h _ _; exact ⟨h, (by intro q hq; cases hq), fun z hz => hz⟩
  | cons q qs ih =>
    intro s h hk hq
    obtain ⟨a1, a2, a3, a4⟩ := lab_inStep h hk hd (hq q List.mem_cons_self)
    obtain ⟨b1, b2, b3⟩ := ih _ a1 a2 fun z hz => hq z (List.mem_cons_of_mem _ hz)
    rw [List.foldl_cons]
    refine ⟨b1, fun z hz => ?_, fun z hz => b3 z (a4 z hz)⟩
    rcases List.mem_cons.mp hz with rfl | hz
    · exact b3 _ a3
    · exact b2 z hz
end K75
set_option Elab.async false
set_option autoImplicit false
set_option linter.all false
set_option maxRecDepth 100000
set_option maxHeartbeats 4000000
/-! M14: the labels over begun, next and turn. No program in sight. -/
namespace K75
open PySem PySem.Spec PyProof.Rows L2 Bv
/-- on the way from level c to c + 1; rem is what is still to be begun -/
structure Beg (one : List Nat) (c : Nat) (s : Found × List (List Nat)) (rem : List (List Nat × List Nat)) : Prop where
  one_in : one ∈ keysF s.1
  lab : ∀ r ∈ keysF s.1, ∃ d L, d ≤ c + 1 ∧ Dist one r d ∧ Way s.1 one r d L
  low : ∀ c' r, c' < c + 1 → Reach one c' r → r ∈ keysF s.1
  ahead : ∀ r ∈ s.2, r ∈ keysF s.1 ∧ Dist one r (c + 1)
  rest : ∀ q ∈ rem, q.1 ∈ keysF s.1 ∧ Dist one q.1 c ∧ (true, q.2) ∈ mt q.1
  closed : ∀ r ∈ keysF s.1, r ∉ s.2 → ∀ q ∈ mt r, q.2 ∈ keysF s.1 ∨ ∃ z ∈ rem, z.2 = q.2
theorem beg_step {one : List Nat} {c : Nat} {s : Found × List (List Nat)} {q : List Nat × List Nat} {rem : List (List Nat × List Nat)} (h : Beg one c s (q :: rem)) : Beg one c (begStep s q) rem := by
  obtain ⟨k1, k2, k3⟩ := h.rest q List.mem_cons_self
  unfold begStep
  by_cases g : has s.1 q.2 = true
  · rw [if_pos g]
    refine ⟨h.one_in, h.lab, h.low, h.ahead, fun z hz => h.rest z (List.mem_cons_of_mem _ hz), fun r hr h2 z hz => ?_⟩
    rcases h.closed r hr h2 z hz with e | ⟨y, y1, y2⟩
    · exact .inl e
    · rcases List.mem_cons.mp y1 with rfl | y1
      · exact .inl (by rw [← y2]; exact has_iff.mp g)
      · exact .inr ⟨y, y1, y2⟩
  · rw [if_neg g]
    have hn : q.2 ∉ keysF s.1 := fun z => g (has_iff.mpr z)
    have hn' : has s.1 q.2 = false := by simpa using g
    have dl := dist_new h.low (Reach.three k2.1 k3) hn
    have up : ∀ {t : List Nat}, t ∈ keysF s.1 → t ∈ keysF (s.1 ++ [(q.2, some q.1)]) := fun z => keys_app.mpr (.inl z)
    refine ⟨up h.one_in, fun r hr => ?_, fun c' r hc hr => up (h.low c' r hc hr), fun r hr => ?_, fun z hz => ?_, fun r hr h2 z hz => ?_⟩
    · rcases keys_app.mp hr with hr | rfl
      · obtain ⟨d, L, e1, e2, e3⟩ := h.lab r hr
        exact ⟨d, L, e1, e2, way_old e3⟩
      · obtain ⟨d, L, e1, e2, e3⟩ := h.lab q.1 k1
        have ed : d = c := dist_uniq e2 k2
        have w := way_new e3 (has_iff.mpr h.one_in) hn' (stepIn_of k3)
        rw [stepCost_one (fun z => hn (h.low c _ (Nat.lt_succ_self c) (Reach.zero k2.1 z))), ed] at w
        exact ⟨c + 1, _, Nat.le_refl _, dl, w⟩
    · rcases List.mem_append.mp hr with hr | hr
      · exact ⟨up (h.ahead r hr).1, (h.ahead r hr).2⟩
      · rw [List.mem_singleton.mp hr]; exact ⟨keys_app.mpr (.inr rfl), dl⟩
    · have := h.rest z (List.mem_cons_of_mem _ hz)
      exact ⟨up this.1, this.2⟩
    · rcases keys_app.mp hr with hr | rfl
      · rcases h.closed r hr (fun e => h2 (List.mem_append_left _ e)) z hz with e | ⟨y, y1, y2⟩
        · exact .inl (up e)
        · rcases List.mem_cons.mp y1 with rfl | y1
          · exact .inl (by rw [← y2]; exact keys_app.mpr (.inr rfl))
          · exact .inr ⟨y, y1, y2⟩
      · exact absurd (List.mem_append_right _ List.mem_cons_self) h2
theorem beg_all {one : List Nat} {c : Nat} (rem : List (List Nat × List Nat)) : ∀ s : Found × List (List Nat), Beg one c s rem → Beg one c (rem.foldl begStep s) [] := by
  induction rem with
  | nil => intro s h; exact h
  | cons q rem ih => intro s h; exact ih _ (beg_step h)
def NoU : List Nat → Prop := fun _ => False
theorem lab_next {one : List Nat} {c : Nat} {s : St3} (h : Lab one c NoU s) : ∃ c', Lab one c' NoU (next s) ∧ ((next s).2.1 = [] → (next s).2.2 = []) := by
  unfold next
  by_cases e : s.2.1 = []
  · rw [if_pos e]
    have cl : ∀ r ∈ keysF s.1, ∀ q ∈ mt r, q.2 ∈ keysF s.1 ∨ (q.1 = true ∧ ∃ z ∈ s.2.2, z.2 = q.2) := fun r hr => h.closed r hr (by rw [e]; exact List.not_mem_nil) (fun z => z)
    have low : ∀ c' r, Reach one c' r → c' < c + 1 → r ∈ keysF s.1 := by
      intro c' r hr
      induction hr with
      | base => intro _; exact h.one_in
      | zero _ hm ih =>
        intro hc
        rcases cl _ (ih hc) _ hm with g | ⟨g, _⟩
        · exact g
        · cases g
      | @three c1 r1 l1 _ hm ih =>
        intro hc
        have hk := ih (by omega)
        obtain ⟨d, L, e1, e2, e3⟩ := h.lab r1 hk
        have : d ≤ c1 := e2.2 _ (by assumption)
        exact h.early r1 hk d (by omega) e2 _ hm
    have b0 : Beg one c (s.1, []) s.2.2 := ⟨h.one_in, fun r hr => by
      obtain ⟨d, L, e1, e2, e3⟩ := h.lab r hr
      exact ⟨d, L, by omega, e2, e3⟩, fun c' r hc hr => low c' r hr hc, fun r hr => absurd hr List.not_mem_nil, h.later, fun r hr _ q hq => by
      rcases cl r hr q hq with g | ⟨_, g⟩
      · exact .inl g
      · exact .inr g⟩
    have b := beg_all s.2.2 (s.1, []) b0
    refine ⟨c + 1, ⟨b.one_in, b.lab, b.low, b.ahead, fun q hq => absurd hq List.not_mem_nil, fun r hr h2 _ q hq => ?_, fun r hr d hd hdr q hq => ?_⟩, fun _ => rfl⟩
    · rcases b.closed r hr h2 q hq with g | ⟨_, g, _⟩
      · exact .inl g
      · cases g
    · have h2 : r ∉ (s.2.2.foldl begStep (s.1, [])).2 := fun z => absurd (dist_uniq hdr (b.ahead r z).2) (by omega)
      rcases b.closed r hr h2 q hq with g | ⟨_, g, _⟩
      · exact g
      · cases g
  · rw [if_neg e]
    exact ⟨c, h, fun z => absurd z e⟩
def IW (one : List Nat) (s : St3) : Prop := (∃ c, Lab one c NoU s) ∧ (s.2.1 = [] → s.2.2 = [])
theorem lab_turn {one : List Nat} : ∀ {s : St3}, IW one s → s.2.1 ≠ [] → IW one (turn s) := by
  rintro ⟨fo, ah, la⟩ ⟨⟨c, h⟩, _⟩ hne
  cases ah with
  | nil => exact absurd rfl hne
  | cons here rest =>
    obtain ⟨hk, hd⟩ := h.ahead here List.mem_cons_self
    have h0 : Lab one c (· = here) (fo, rest, la) := ⟨h.one_in, h.lab, h.low, fun r hr => h.ahead r (List.mem_cons_of_mem _ hr), h.later, fun r hr h2 h3 => h.closed r hr (fun z => by
      rcases List.mem_cons.mp z with z | z
      · exact h3 z
      · exact h2 z) (fun z => z), h.early⟩
    obtain ⟨b1, b2, _⟩ := lab_inner hd (mt here) (fo, rest, la) h0 hk fun q hq => hq
    have h1 : Lab one c NoU (inner here (fo, rest, la)) := ⟨b1.one_in, b1.lab, b1.low, b1.ahead, b1.later, fun r hr h2 _ q hq => by
      by_cases e : r = here
      · subst e
        exact b2 q hq
      · exact b1.closed r hr h2 e q hq, b1.early⟩
    obtain ⟨c', d1, d2⟩ := lab_next h1
    exact ⟨⟨c', d1⟩, d2⟩
end K75
set_option Elab.async false
set_option autoImplicit false
set_option linter.all false
set_option maxRecDepth 100000
set_option maxHeartbeats 4000000
namespace Bv
open PySem PySem.Spec PyProof.Rows L2
section
variable {X : Cx} {Γ : En} {a b : Expr} {pos : Pos}
theorem bv_eqSame {x : Str} (ha : BV X a Γ (.str x)) (hb : BV X b Γ (.str x)) (hm : behindInMarks .Eq b = false := by rfl) : BV X (.Compare a [.Eq] [b] pos) Γ (.bool true) :=
  bv_cmp op_eq ha hb hm fun σ H0 B H v1 v2 s g1 g2 Q q => by
    cases g1
    cases g2
    exact ⟨rfl, by rw [decide_eq_true rfl]; exact q⟩
theorem bv_emptyD : BV X (.Dict [] [] pos) Γ (.dict []) := by
  intro σ B H s Q q
  refine can_of pe_dnewK fun p hp => ?_
  exact q _ _ _ (Bv.Pur.laid s.sub hp) (Rp.dic upd_same)
end
end Bv
/-! K21: _law_rows_right. -/
namespace K75
open PySem PySem.Spec PyProof.Rows L2 Bv

structure Told (n : Nat) (one other : List Nat) (dist : Nat) (T : List (List Nat)) : Prop where
  pos : 1 ≤ T.length
  size : T.length ≤ 800
  small : ∀ r ∈ T, smallR r
  path : pathOk n one other (T.map some) = true
  cost : pathCost T = dist
def RightOk (n : Nat) (one other : List Nat) : Prop := ∃ (dist : Nat) (J : St3 → Prop) (meas : St3 → Nat) (JF : List (List Nat) → Nat → List (List Nat) → Prop) (mF : List (List Nat) → Nat → List (List Nat) → Nat), WOk one J meas ∧ FOk one other JF mF ∧
  (∀ s, J s → s.2.1 = [] → ∃ L, Back s.1 one other L ∧ Told n one other dist L.reverse) ∧ ∀ near c found, JF near c found → hasK found other = true → c = dist
def S_rr : Sb := fun es Φ => ∃ (g n : Nat) (p : List PyData) (one other : List Nat), es = [.own p, .dat (.int (n : Nat)), .dat (nrow one), .dat (nrow other)] ∧ 1 ≤ n ∧ n ≤ 5 ∧ Pur (g + 8) p ∧ smallR one ∧ smallR other ∧ (other.length ≤ 19 ∧ one.length ≤ 19) ∧ isRow n one = true ∧ isRow n other = true ∧ RightOk n one other ∧
  ∀ p', Pur g p' → Φ (.dat (.bool true)) [.own p', .dat (.int (n : Nat)), .dat (nrow one), .dat (nrow other)]
section
variable {P : Program} {w : World} {K : PySem.W.Frag} {mg : Str → Option Value} {base : Heap} {k : Nat} {f : Addr} {fd : FuncData}
/-- what is known behind told = .. -/
def gam (p : List PyData) (n : Nat) (one other : List Nat) (noted : Str) (T1 T2 : List (List Nat)) : En := [.own p, .dat (.int (n : Nat)), .dat (nrow one), .dat (nrow other), .dat (.str noted), .dat (.list [.list (T1.map nrow), .list (T2.map nrow)]), .no, .no, .no, .no, .no, .no, .no, .no, .no]
theorem ok_rr (F : Fun K "_law_rows_right" "_law_rows_right" (top 40) f fd) (C_rom : Calls P w K mg base 7 "row_of_moves" S_rom) (CK_rom : CallsK P w K mg base 7 "row_of_moves" ["other", "one", "many"] g3r S_rom) (m_repr : mg "repr" = none)
    (C_lis_moves : Calls P w K mg base 3 "_law_is_moves" S_lis_moves) (C_cost : Calls P w K mg base 2 "_law_cost" S_cost) (C_fewest : Calls P w K mg base 3 "_law_fewest" S_fewest) (C_walked : Calls P w K mg base 4 "_law_walked" S_walked) (C_draw : Calls P w K mg base 2 "_law_draw" S_draw) (C_exact : Calls P w K mg base 2 "_law_exact" (S_exact 1)) (C_irom : Calls P w K mg base 7 "is_row_of_moves" S_irom) (CK_irom : CallsK P w K mg base 7 "is_row_of_moves" ["value", "other", "one", "many"] g4r S_irom)
    (m_len : mg "len" = none) (m_tuple : mg "tuple" = none) (m_list : mg "list" = none) (MW : ∀ n r L, Walk r L → isRow n r = true → ∀ q ∈ L, isRow n q = true) (MS : ∀ n r, n ≤ 5 → isRow n r = true → smallR r) : FnG P w K mg base 10 f fd ["purse", "many", "one", "other"] (toSp K S_rr) := by
  refine fnG_raw F sc40 (fun vs H Q E ⟨B, es, Φ, st, ⟨_, _, _, _, _, e, _⟩, _⟩ => by have := st.len; rw [List.length_map] at this; rw [← this, e]; rfl) (fun cdv A outer s0 H E vs Q hgd0 hr h => ?_)
  obtain ⟨B, es, Φ, st, ⟨g, n, p, one, other, e, h1, h2, hp, sm1, sm2, ⟨so19, _⟩, r1, r2, ⟨dist, J, meas, JF, mF, W, FO, hW, hF⟩, hΦ⟩, q⟩ := h
  subst e
  have s1 := (start_st (N := N40) st).1
  let X := (cxOf CX0 P w K mg base N40 "_law_rows_right" (defScope (top 40)) f cdv A outer s0 H E).nox
  have hgd : X.A.guards = some [] := hgd0
  show tCanSs X (part 0 1 ++ (part 1 1 ++ (part 2 5 ++ part 7 2))) _ _ _
  have t1 : tells (.list [nrow one, nrow other]) := tells_rows (L := [one, other]) (fun r hr => by rcases List.mem_cons.mp hr with rfl | hr; exact sm1; rw [List.mem_singleton.mp hr]; exact sm2) (Nat.le_of_ble_eq_true rfl)
  -- noted
  refine canSs_app ?_
  have ph1 : SV X [0] (part 0 1) (startE N40 [.own p, .dat (.int (n : Nat)), .dat (nrow one), .dat (nrow other)]) { nx := fun Γ' => Γ' = [.own p, .dat (.int (n : Nat)), .dat (nrow one), .dat (nrow other), .dat (.str (PyData.list [nrow one, nrow other]).shown), .no, .no, .no, .no, .no, .no, .no, .no, .no, .no], rt := fun _ _ => False } :=
    sv_asg (i := 4) sc40.nd rfl (.inl rfl) (by decide) (bv_repr hgd (hu102 hr) (by rfl) m_repr (br_give (br_lst (ba_cons (bv_v 2 rfl) (ba_cons (bv_v 3 rfl) ba_nil)) (by first | exact Nat.le_of_ble_eq_true rfl | decide | assumption | (simp [sizeLine_eq]; omega)))) t1) (sv_nil rfl)
  refine ph1 _ B H s1 _ (fun Γ1 σ1 B1 H1 o1 z => ?_) (fun _ _ _ _ _ _ _ _ z => z.elim) (fun _ _ _ _ _ z => z.elim) (fun _ _ _ _ _ z => z.elim)
  subst z
  -- told
  refine canSs_app ?_
  have RB : S_rom ([PyData.int (n : Nat), nrow one, nrow other].map .dat) fun r' _ => ∃ T, Told n one other dist T ∧ r' = .new (T.map nrow) := ⟨n, one, other, J, meas, rfl, ⟨h1, h2, by have := sm1.1; omega, by have := sm2.1; omega, r1, r2⟩, W, fun s hJ he => by
    obtain ⟨L, hB, hT⟩ := hW s hJ he
    exact ⟨L, hB, L.reverse, hT, rfl⟩⟩
  have RK : S_rom ([PyData.int (n : Nat), nrow one, nrow other].map .dat) fun r' _ => isPeek r' = none ∧ ∃ T, Told n one other dist T ∧ r' = .new (T.map nrow) := ⟨n, one, other, J, meas, rfl, ⟨h1, h2, by have := sm1.1; omega, by have := sm2.1; omega, r1, r2⟩, W, fun s hJ he => by
    obtain ⟨L, hB, hT⟩ := hW s hJ he
    exact ⟨L, hB, rfl, L.reverse, hT, rfl⟩⟩
  refine canSs_of (pss_one (ps_set (i := 5) sc40.nd rfl (.inl rfl) (pe_lst pa_can))) ?_
  refine (show EVA X _ [.own p, .dat (.int (n : Nat)), .dat (nrow one), .dat (nrow other), .dat (.str (PyData.list [nrow one, nrow other]).shown), .no, .no, .no, .no, .no, .no, .no, .no, .no, .no] (fun rs Γ' => ∃ T1 T2, Told n one other dist T1 ∧ Told n one other dist T2 ∧ rs = [.new (T1.map nrow), .new (T2.map nrow)] ∧ Γ' = [.own p, .dat (.int (n : Nat)), .dat (nrow one), .dat (nrow other), .dat (.str (PyData.list [nrow one, nrow other]).shown), .no, .no, .no, .no, .no, .no, .no, .no, .no, .no]) from
    eva_cons (ev_own C_rom (hr.mono (by decide)) (by rfl) (BA.eva (ba_cons (bv_v 1 rfl) (ba_cons (bv_v 2 rfl) (ba_cons (bv_v 3 rfl) ba_nil))) ⟨(show ([] : List Nat).Nodup from List.nodup_nil), n, one, other, J, meas, rfl, ⟨h1, h2, by have := sm1.1; omega, by have := sm2.1; omega, r1, r2⟩, W, fun s hJ he => by
      obtain ⟨L, hB, hT⟩ := hW s hJ he
      exact ⟨L, hB, eva_cons (ev_ownK CK_rom (hr.mono (by decide)) (by rfl) (bk_cons (bv_v 3 rfl) (bk_cons (bv_v 2 rfl) (bk_cons (bv_v 1 rfl) bk_nil))) (fun B zs z => g3r_rp z) ⟨n, one, other, J, meas, rfl, ⟨h1, h2, by have := sm1.1; omega, by have := sm2.1; omega, r1, r2⟩, W, fun s2 hJ2 he2 => by
        obtain ⟨L2, hB2, hT2⟩ := hW s2 hJ2 he2
        exact ⟨L2, hB2, rfl, eva_nil ⟨fun i z => (nomatch z), fun i z => (nomatch z), L.reverse, L2.reverse, hT, hT2, rfl, rfl⟩⟩⟩)⟩⟩))) _ B1 H1 o1.st _ fun vs rs Γ2 B2 H2 o2 g2 hΨ => ?_
  obtain ⟨T1, T2, hT1, hT2, er, eΓ⟩ := hΨ
  subst er eΓ
  obtain ⟨v1, ws, rfl, ⟨p1, xs1, rfl, p10, p1b, p1h, gg1⟩, ⟨v2, us, rfl, ⟨p2, xs2, rfl, p20, p2b, p2h, gg2⟩, hu, _⟩, ap⟩ := g2
  cases (show us = [] from hu)
  have hne : p2 ≠ p1 := fun z => by subst z; exact ap trivial 0 _ rfl trivial rfl
  have oa := o2.giveNew o1.st p10 p1b p1h
  have p2b' : upd B2 p1 (.lst xs1) p2 = none := by rw [upd_ne hne]; exact p2b
  have ob := oa.giveNew o1.st p20 p2b' p2h
  refine ⟨Nat.le_of_ble_eq_true rfl, fun D hD => ?_⟩
  have hD1 : D ≠ p1 := fun z => by subst z; rw [p1h] at hD; cases hD
  have hD2 : D ≠ p2 := fun z => by subst z; rw [p2h] at hD; cases hD
  have nD : upd (upd B2 p1 (.lst xs1)) p2 (.lst xs2) D = none := ob.st.sub.free hD
  have pl := Bv.Pur.laid (o := .lst [.ref p1, .ref p2]) ob.st.sub hD
  have e3 : Same B2 (upd (upd (upd B2 p1 (.lst xs1)) p2 (.lst xs2)) D (.lst [.ref p1, .ref p2])) := (same_upd p1b).trans ((same_upd p2b').trans (same_upd nD))
  have bp1 : upd (upd (upd B2 p1 (.lst xs1)) p2 (.lst xs2)) D (.lst [.ref p1, .ref p2]) p1 = some (.lst xs1) := by rw [upd_ne hD1.symm, upd_ne hne.symm, upd_same]
  have bp2 : upd (upd (upd B2 p1 (.lst xs1)) p2 (.lst xs2)) D (.lst [.ref p1, .ref p2]) p2 = some (.lst xs2) := by rw [upd_ne hD2.symm, upd_same]
  have o4 := o1.trans (Out.s (F := [0]) (ob.trans (pl.out ob.st)))
  have rp : Rp X.K _ (.list [.list (T1.map nrow), .list (T2.map nrow)]) (.ref D) := .lst (upd_same (H := upd (upd B2 p1 (.lst xs1)) p2 (.lst xs2))) (.cons (.lst bp1 (gg1.up e3)) (.cons (.lst bp2 (gg2.up e3)) .nil))
  have o5 := o4.put (i := 5) (r := .dat (.list [.list (T1.map nrow), .list (T2.map nrow)])) ⟨_, rfl, rp⟩ (fun z => z.elim) (by decide)
  generalize hBn : upd (upd (upd B2 p1 (.lst xs1)) p2 (.lst xs2)) D (.lst [.ref p1, .ref p2]) = Bn at o5 bp1
  have bD : Bn D = some (.lst [.ref p1, .ref p2]) := by rw [← hBn]; exact upd_same
  have fresh1 : H p1 = none := o1.step.dom p1 p10
  show tCanSs X (part 2 5 ++ part 7 2) _ (σ1.set 5 (some (.ref D))) (upd H2 D (.lst [.ref p1, .ref p2]))
  generalize upd H2 D (.lst [.ref p1, .ref p2]) = Hn at o5 ⊢
  clear pl rp e3 bp2 nD ob oa p2b' o4 o2 p10 p1b p1h p20 p2b p2h hD hD1 hD2 hne ap hBn
  -- the middle
  refine canSs_app ?_
  have ph3 : SV X [0, 5] (part 2 5) (gam p n one other (PyData.list [nrow one, nrow other]).shown T1 T2) { nx := fun Γ' => ∃ (p' : List PyData) (t6 t7 t8 t9 t10 t11 t12 t13 t14 : Ent), Pur g p' ∧ Γ' = [.own p', .dat (.int (n : Nat)), .dat (nrow one), .dat (nrow other), .dat (.str (PyData.list [nrow one, nrow other]).shown), .dat (.list [.list (T1.map nrow), .list (T2.map nrow)]), t6, t7, t8, t9, t10, t11, t12, t13, t14], rt := fun _ _ => False } := by
    have okT : ∀ T, Told n one other dist T → (∀ r ∈ T, r.length ≤ 1000) ∧ steps T = true := fun T hT => by
      refine ⟨fun r hr => by have := (hT.small r hr).1; omega, ?_⟩
      have := hT.path
      unfold pathOk at this
      rw [filt_some] at this
      exact (Bool.and_eq_true_iff.mp this).2
    refine sv_when (BT.is (d := false) (bt_ne hr (br_lc1f (L := [T1, T2]) (enc := fun T => .list (T.map nrow)) (keep := fun _ => false) (f := fun T => .list (T.map nrow)) sc40.nd bk40_0 (pi_list pe_can) (gv_list (bv_v 5 rfl)) (fun Y hY => ?_) (Nat.le_of_ble_eq_true rfl) (fun T hTm Y hY => ?_) (fun T _ hk => by cases hk)) (br_lst ba_nil (by first | exact Nat.le_of_ble_eq_true rfl | decide | assumption | (simp [sizeLine_eq]; omega))) rfl rfl rfl rfl) rfl) (fun c => by cases c) (fun _ => ?_)
    · obtain ⟨_, _, _, _, _, rfl⟩ := hY
      exact pg_name (i := 6) sc40.nd rfl (.inl rfl)
    · obtain ⟨_, _, _, _, _, rfl⟩ := hY
      have hT : Told n one other dist T := by
        rcases List.mem_cons.mp hTm with rfl | hTm
        · exact hT1
        · rw [List.mem_singleton.mp hTm]; exact hT2
      obtain ⟨a1, a2⟩ := okT T hT
      have D1 : S_lis_moves ([PyData.int (n : Nat), nrow one, nrow other, .list (T.map nrow)].map .dat) fun r' _ => r' = .dat (.bool true) := ⟨n, one, other, _, rfl, ⟨h1, by omega⟩, .inr ⟨T.map some, (items_rows T).symm, by rw [List.length_map]; have := hT.size; omega, fun x hx r e => by
        subst e
        obtain ⟨r', hr', e⟩ := List.mem_map.mp hx
        cases e
        exact a1 _ hr', by rw [hT.path]⟩⟩
      have D2 : S_cost ([.list (T.map nrow)].map .dat) fun r' _ => r' = .dat (.int (dist : Nat)) := ⟨T, rfl, hT.pos, by have := hT.size; omega, a1, a2, by rw [hT.cost]⟩
      have D3 : S_fewest ([nrow one, nrow other].map .dat) fun r' _ => r' = .dat (.int (dist : Nat)) := ⟨one, other, JF, mF, rfl, FO, fun near c found hJ hh => by rw [hF near c found hJ hh]⟩
      refine BT.is (bw_t (bw_or (bt_not (bt_val (br_own C_lis_moves (hr.mono (by decide)) (by rfl) (ba_cons (bv_v 1 rfl) (ba_cons (bv_v 2 rfl) (ba_cons (bv_v 3 rfl) (ba_cons (bv_v 6 rfl) ba_nil)))) D1))) (fun _ => bw_or1 (bt_ne hr (br_own C_cost (hr.mono (by decide)) (by rfl) (ba_cons (bv_v 6 rfl) ba_nil) D2) (br_own C_fewest (hr.mono (by decide)) (by rfl) (ba_cons (bv_v 2 rfl) (ba_cons (bv_v 3 rfl) ba_nil)) D3) rfl rfl rfl rfl)))) ?_
      rw [eqv_nn]
      simp
    have g0 : L2.atI [PyData.list (T1.map nrow), PyData.list (T2.map nrow)] 0 = some (.list (T1.map nrow)) := rfl
    have hTl : (T1.map nrow).length = T1.length := List.length_map ..
    refine sv_par (i := 7) (j := 8) rfl sc40.nd rfl rfl (by decide) rfl rfl ⟨by decide, by decide⟩ (eva_cons (ev_own C_walked (hr.mono (by decide)) (by rfl) ?_))
    refine eva_cons (BR.ev (br_o 0 rfl) ?_)
    refine eva_cons (BR.ev (bv_v 2 rfl) ?_)
    refine eva_cons (ev_own C_draw (hr.mono (by decide)) (by rfl) ?_)
    refine eva_cons (BR.ev (br_o 0 rfl) (BA.eva (ba_cons bv_int ba_nil) ⟨fun i h => by cases h; trivial, (show ([0] : List Nat).Nodup from by decide), g + 7, p, 6, rfl, hp, by decide, by decide, fun r pa hra hpa => ?_⟩))
    refine eva_nil ⟨fun i h => (nomatch h), fun i h => (nomatch h), fun i h => by cases h; trivial, (show ([0] : List Nat).Nodup from by decide), g + 1, r, one, pa, rfl, by omega, by have := sm1.1; omega, hpa.less (by omega), fun Wk pb hWk hWl hpb => ?_⟩
    refine eva_cons (ev_own C_draw (hr.mono (by decide)) (by rfl) ?_)
    refine eva_cons (BR.ev (br_o 0 rfl) (BA.eva (ba_cons (bv_len (by rfl) m_len (bv_ix (bv_v 5 rfl) bv_int rfl g0) rfl) ba_nil) ⟨fun i h => by cases h; trivial, (show ([0] : List Nat).Nodup from by decide), g, pb, T1.length, by rw [← hTl]; rfl, hpb, hT1.pos, by have := hT1.size; omega, fun at1 pc hat hpc => ?_⟩))
    refine eva_nil ⟨fun i h => (nomatch h), fun i h => (nomatch h), _, _, rfl, ⟨rfl, rfl⟩, ?_⟩
    obtain ⟨wl, hwl⟩ : ∃ wl, Wk.getLast? = some wl := by
      cases h : Wk.getLast? with
      | none => rw [List.getLast?_eq_none_iff.mp h] at hWk; cases hWk.1
      | some x => exact ⟨x, rfl⟩
    have g1 : L2.atI (Wk.map nrow) (-1) = some (nrow wl) := by
      obtain ⟨ys, e⟩ := List.getLast?_eq_some_iff.mp hwl
      rw [e, List.map_append]
      exact atI_last _ _
    refine sv_asg (i := 9) sc40.nd rfl (.inl rfl) (by decide) (br_lst (ba_cons (bv_tup (ba_cons (bv_v 2 rfl) (ba_cons (bv_v 3 rfl) (ba_cons (bv_ix (bv_v 5 rfl) bv_int rfl g0) ba_nil))) (Nat.le_of_ble_eq_true rfl)) (ba_cons (bv_tup (ba_cons (bv_v 2 rfl) (ba_cons (bv_ix (bv_v 7 rfl) (bv_tC pe_usub1) rfl g1) (ba_cons (bv_v 7 rfl) ba_nil))) (Nat.le_of_ble_eq_true rfl)) (ba_cons (bv_tup (ba_cons (bv_v 2 rfl) (ba_cons (bv_v 3 rfl) (ba_cons (bv_v 7 rfl) ba_nil))) (Nat.le_of_ble_eq_true rfl)) (ba_cons (bv_tup (ba_cons (bv_v 3 rfl) (ba_cons (bv_v 2 rfl) (ba_cons (bv_ix (bv_v 5 rfl) bv_int rfl g0) ba_nil))) (Nat.le_of_ble_eq_true rfl)) (ba_cons (bv_tup (ba_cons (bv_v 3 rfl) (ba_cons (bv_v 2 rfl) (ba_cons (br_give (br_rev (bv_ix (bv_v 5 rfl) bv_int rfl g0) rfl pe_neg1 (fun _ _ => rfl))) ba_nil))) (Nat.le_of_ble_eq_true rfl)) (ba_cons (bv_tup (ba_cons (bv_v 2 rfl) (ba_cons (bv_v 2 rfl) (ba_cons (br_give (br_lst (ba_cons (bv_v 2 rfl) ba_nil) (by first | exact Nat.le_of_ble_eq_true rfl | decide | assumption | (simp [sizeLine_eq]; omega)))) ba_nil))) (Nat.le_of_ble_eq_true rfl)) (ba_cons (bv_tup (ba_cons (bv_v 2 rfl) (ba_cons (bv_v 3 rfl) (ba_cons (br_give (br_lst (ba_cons (bv_v 2 rfl) (ba_cons (bv_v 3 rfl) ba_nil)) (by first | exact Nat.le_of_ble_eq_true rfl | decide | assumption | (simp [sizeLine_eq]; omega)))) ba_nil))) (Nat.le_of_ble_eq_true rfl)) ba_nil))))))) (by first | exact Nat.le_of_ble_eq_true rfl | decide | assumption | (simp [sizeLine_eq]; omega))) ?_
    have hz1 : (cutL (T1.map nrow) none (some (at1 : Int))).length + (cutL (T1.map nrow) (some ((at1 : Int) + 1)) none).length ≤ sizeLine := by
      rw [cut_to _ at1 rfl, cut_from _ (at1 + 1) (i := (at1 : Int) + 1) (by omega)]
      have := hT1.size
      simp only [List.length_take, List.length_drop, List.length_map, sizeLine_eq]
      omega
    have hz2 : (cutL (T1.map nrow) none (some ((at1 : Int) + 1))).length + (cutL (T1.map nrow) (some (at1 : Int)) none).length ≤ sizeLine := by
      rw [cut_to _ (at1 + 1) (i := (at1 : Int) + 1) (by omega), cut_from _ at1 rfl]
      have := hT1.size
      simp only [List.length_take, List.length_drop, List.length_map, sizeLine_eq]
      omega
    have hz3 : (T1.map nrow).length + [PyData.none].length ≤ sizeLine := by
      have := hT1.size
      simp only [List.length_map, List.length_singleton, sizeLine_eq]
      omega
    have hz4 : (nums other).length + [PyData.int 0].length ≤ sizeLine := by
      have := sm2.1
      simp only [List.length_map, List.length_singleton, sizeLine_eq]
      omega
    have hz5 : (T1.map nrow).length + [PyData.list (nums other ++ [PyData.int 0])].length ≤ sizeLine := by
      have := hT1.size
      simp only [List.length_map, List.length_singleton, sizeLine_eq]
      omega
    refine sv_for (L := [PyData.none, .list [], .tuple [], .dict [], .str "rows", .tuple (T1.map nrow), .list (cutL (T1.map nrow) none (some (at1 : Int)) ++ cutL (T1.map nrow) (some ((at1 : Int) + 1)) none), .list (cutL (T1.map nrow) none (some ((at1 : Int) + 1)) ++ cutL (T1.map nrow) (some (at1 : Int)) none), .list (T1.map nrow ++ [.none]), .list (T1.map nrow ++ [.list (nums other ++ [.int 0])]), .list [.list (nums other)]]) (enc := fun d => d) (is := [10]) (sp := fun d => [d]) PassesOwn.never rfl (pi_list pe_can)
      (gv_list (br_give (br_lst (ba_cons bv_non (ba_cons (br_give (br_lst ba_nil (by first | exact Nat.le_of_ble_eq_true rfl | decide | assumption | (simp [sizeLine_eq]; omega)))) (ba_cons (bv_tup ba_nil (Nat.le_of_ble_eq_true rfl)) (ba_cons bv_emptyD (ba_cons bv_str (ba_cons (bv_tuple (by rfl) m_tuple (bv_ix (bv_v 5 rfl) bv_int rfl g0) rfl) (ba_cons (br_give (br_cat (br_slice (bv_ix (bv_v 5 rfl) bv_int rfl g0) rfl bo_none (bo_some (bv_v 8 rfl))) (br_slice (bv_ix (bv_v 5 rfl) bv_int rfl g0) rfl (bo_some (bv_add (bv_v 8 rfl) bv_int)) bo_none) rfl rfl hz1)) (ba_cons (br_give (br_cat (br_slice (bv_ix (bv_v 5 rfl) bv_int rfl g0) rfl bo_none (bo_some (bv_add (bv_v 8 rfl) bv_int))) (br_slice (bv_ix (bv_v 5 rfl) bv_int rfl g0) rfl (bo_some (bv_v 8 rfl)) bo_none) rfl rfl hz2)) (ba_cons (br_give (br_cat (bv_ix (bv_v 5 rfl) bv_int rfl g0) (br_lst (ba_cons bv_non ba_nil) (by first | exact Nat.le_of_ble_eq_true rfl | decide | assumption | (simp [sizeLine_eq]; omega))) rfl rfl hz3)) (ba_cons (br_give (br_cat (bv_ix (bv_v 5 rfl) bv_int rfl g0) (br_lst (ba_cons (br_give (br_cat (bv_v 3 rfl) (br_lst (ba_cons bv_int ba_nil) (by first | exact Nat.le_of_ble_eq_true rfl | decide | assumption | (simp [sizeLine_eq]; omega))) rfl rfl hz4)) ba_nil) (by first | exact Nat.le_of_ble_eq_true rfl | decide | assumption | (simp [sizeLine_eq]; omega))) rfl rfl hz5)) (ba_cons (br_give (br_lst (ba_cons (br_give (br_list (by rfl) m_list (bv_v 3 rfl) (.inl rfl))) ba_nil) (by first | exact Nat.le_of_ble_eq_true rfl | decide | assumption | (simp [sizeLine_eq]; omega)))) ba_nil))))))))))) (by first | exact Nat.le_of_ble_eq_true rfl | decide | assumption | (simp [sizeLine_eq]; omega))))) (by decide) (fun d _ => bg_name (pg_name sc40.nd rfl (.inl rfl)))
      (fun pre Γ1 => ∃ t10 : Ent, Γ1 = [.own pc, .dat (.int (n : Nat)), .dat (nrow one), .dat (nrow other), .dat (.str (PyData.list [nrow one, nrow other]).shown), .dat (.list [.list (T1.map nrow), .list (T2.map nrow)]), .no, .dat (.list (Wk.map nrow)), .dat (.int (at1 : Nat)), .own ([(one, other, PyData.list (T1.map nrow)), (one, wl, .list (Wk.map nrow)), (one, other, .list (Wk.map nrow)), (other, one, .list (T1.map nrow)), (other, one, .list (T1.map nrow).reverse), (one, one, .list [nrow one]), (one, other, .list [nrow one, nrow other])].map enc3 ++ pre.map fun d => enc3 (one, other, d)), t10, .no, .no, .no, .no]) ⟨.no, rfl⟩ ?_ ?_
    · rintro pre d post Γ1 e ⟨t10, rfl⟩
      have hpl : pre.length < 11 := by
        have := congrArg List.length e
        simp at this
        omega
      refine sv_expr (ev_append (i := 9) rfl (.inl rfl) rfl (BR.ev (bv_tup (ba_cons (bv_v 2 rfl) (ba_cons (bv_v 3 rfl) (ba_cons (bv_v 10 rfl) ba_nil))) (Nat.le_of_ble_eq_true rfl)) ⟨_, _, rfl, rfl, ?_, sv_nil ⟨.dat d, ?_⟩⟩))
      · simp only [List.length_append, List.length_map, List.length_cons, List.length_nil, sizeLine_eq]
        omega
      · rw [List.map_append, ← List.append_assoc]
        rfl
    · rintro Γ1 ⟨t10, rfl⟩
      have rwk := MW n one Wk hWk r1
      have swk : ∀ q ∈ Wk, smallR q := fun q hq => MS n q h2 (rwk q hq)
      have hwm : wl ∈ Wk := List.mem_of_getLast? hwl
      have ok1 := okD_rows hT1.small (by have := hT1.size; omega)
      have okW := okD_rows swk (by omega)
      have okR : OkD (.list (T1.map nrow).reverse) := by
        rw [← List.map_reverse]
        exact okD_rows (fun r hr => hT1.small r (List.mem_reverse.mp hr)) (by rw [List.length_reverse]; have := hT1.size; omega)
      have okO := odds_ok hT1.small hT1.size sm2 so19 at1
      have eL : ([(one, other, PyData.list (T1.map nrow)), (one, wl, .list (Wk.map nrow)), (one, other, .list (Wk.map nrow)), (other, one, .list (T1.map nrow)), (other, one, .list (T1.map nrow).reverse), (one, one, .list [nrow one]), (one, other, .list [nrow one, nrow other])].map enc3 ++ (odds T1 other at1).map fun d => enc3 (one, other, d)) = ([(one, other, PyData.list (T1.map nrow)), (one, wl, .list (Wk.map nrow)), (one, other, .list (Wk.map nrow)), (other, one, .list (T1.map nrow)), (other, one, .list (T1.map nrow).reverse), (one, one, .list [nrow one]), (one, other, .list [nrow one, nrow other])] ++ (odds T1 other at1).map fun d => (one, other, d)).map enc3 := by
        rw [List.map_append, List.map_map]
        rfl
      show SV X [0, 5] (part 6 1) [.own pc, .dat (.int (n : Nat)), .dat (nrow one), .dat (nrow other), .dat (.str (PyData.list [nrow one, nrow other]).shown), .dat (.list [.list (T1.map nrow), .list (T2.map nrow)]), .no, .dat (.list (Wk.map nrow)), .dat (.int (at1 : Nat)), .own ([(one, other, PyData.list (T1.map nrow)), (one, wl, .list (Wk.map nrow)), (one, other, .list (Wk.map nrow)), (other, one, .list (T1.map nrow)), (other, one, .list (T1.map nrow).reverse), (one, one, .list [nrow one]), (one, other, .list [nrow one, nrow other])].map enc3 ++ (odds T1 other at1).map fun d => enc3 (one, other, d)), t10, .no, .no, .no, .no] _
      rw [eL]
      refine (rr_for (cdv := cdv) (A := A) (outer := outer) (s0 := s0) (H := H) (E := E) hgd0 hr m_repr C_lis_moves C_exact C_irom CK_irom h1 h2 ?_).mono (fun Γ' ⟨t6, t9, t11, t12, t13, t14, e⟩ => ⟨pc, t6, _, _, t9, t10, t11, t12, t13, t14, hpc, e⟩) (fun _ _ z => z.elim) (fun _ z => z.elim) (fun _ z => z.elim)
      have row1 : ∀ a b : List Nat, isRow n a = true → isRow n b = true → smallR a → smallR b → ∀ d, OkD d → isRow n a = true ∧ isRow n b = true ∧ smallR a ∧ smallR b ∧ OkD d := fun a b x1 x2 x3 x4 d x5 => ⟨x1, x2, x3, x4, x5⟩
      refine List.forall_mem_append.mpr ⟨?_, fun q hq => ?_⟩
      · refine List.forall_mem_cons.mpr ⟨row1 _ _ r1 r2 sm1 sm2 _ ok1, List.forall_mem_cons.mpr ⟨row1 _ _ r1 (rwk wl hwm) sm1 (swk wl hwm) _ okW, List.forall_mem_cons.mpr ⟨row1 _ _ r1 r2 sm1 sm2 _ okW, List.forall_mem_cons.mpr ⟨row1 _ _ r2 r1 sm2 sm1 _ ok1, List.forall_mem_cons.mpr ⟨row1 _ _ r2 r1 sm2 sm1 _ okR, List.forall_mem_cons.mpr ⟨row1 _ _ r1 r1 sm1 sm1 _ (okD_rows (L := [one]) (fun r hr => by rw [List.mem_singleton.mp hr]; exact sm1) (Nat.le_of_ble_eq_true rfl)), List.forall_mem_cons.mpr ⟨row1 _ _ r1 r2 sm1 sm2 _ (okD_rows (L := [one, other]) (fun r hr => by rcases List.mem_cons.mp hr with rfl | hr; exact sm1; rw [List.mem_singleton.mp hr]; exact sm2) (Nat.le_of_ble_eq_true rfl)), fun q hq => nomatch hq⟩⟩⟩⟩⟩⟩⟩
      · obtain ⟨d, hd, rfl⟩ := List.mem_map.mp hq
        exact row1 _ _ r1 r2 sm1 sm2 _ (okO d hd)
  refine ph3 _ Bn Hn o5.st _ (fun Γ6 σ6 B6 H6 o6 z => ?_) (fun _ _ _ _ _ _ _ _ z => z.elim) (fun _ _ _ _ _ z => z.elim) (fun _ _ _ _ _ z => z.elim)
  obtain ⟨p', t6, t7, t8, t9, t10, t11, t12, t13, t14, hp', eΓ6⟩ := z
  have l15 : σ1.length = 15 := by
    have := o1.st.len
    simpa using this.symm
  have hσ6 : σ6[5]? = some (some (.ref D)) := by
    rw [o6.fix 5 (by decide)]
    rw [List.getElem?_set_self (by rw [l15]; decide)]
  have b6D : B6 D = some (.lst [.ref p1, .ref p2]) := o6.step.ex _ _ bD
  have b61 : B6 p1 = some (.lst xs1) := o6.step.ex _ _ bp1
  have h61 := o6.st.sub _ _ b61
  obtain ⟨r0, T0, eT⟩ : ∃ r0 T0, T1 = r0 :: T0 := by
    cases T1 with
    | nil => have := hT1.pos; simp at this
    | cons a b => exact ⟨a, b, rfl⟩
  obtain ⟨q0, vs0, exs⟩ : ∃ q0 vs0, xs1 = .ref q0 :: vs0 := by
    rw [eT] at gg1
    cases gg1 with
    | cons a b =>
      cases a with
      | lst _ _ => exact ⟨_, _, rfl⟩
  have hxl : xs1.length < sizeLine := by
    have e := gg1.len
    rw [List.length_map] at e
    have := hT1.size
    rw [sizeLine_eq]
    omega
  -- told[0].append('more')
  show tCanSs X (part 7 2) _ σ6 H6
  refine canSs_of (pss_cons (ps_expr (pe_bm PySem.F.plainAttrs_list PySem.F.slot_list_append PySem.F.type_list_append mt_append (pe_ix ix_list (pv 5) pe_int (fun _ _ => rfl)) (pa_cons pe_str pa_nil))) (pss_can (ss := (part 7 2).drop 1))) ?_
  refine ⟨.ref D, hσ6, D, _, 0, .ref p1, rfl, rfl, .of (o6.st.sub _ _ b6D), rfl, ?_⟩
  refine ⟨.inl ⟨rfl, _, SqL.of h61⟩, p1, xs1, _, rfl, rfl, h61, hxl, ?_⟩
  have fl : ∀ r : List Nat, flat (nrow r) := fun r => ⟨toI r, by unfold toI; rw [List.map_map]; rfl⟩
  have fp : ∀ d ∈ p', flat d := fun d hd => by
    obtain ⟨a, b, c, e, rfl, _⟩ := hp'
    simp at hd
    rcases hd with rfl | rfl | rfl | rfl <;> trivial
  have sc := o6.st.cut (p := p1) (q := q0) (vs := vs0) (o := .lst (xs1 ++ [V.str "more"])) (Γ' := [.own p', .dat (.int (n : Nat)), .dat (nrow one), .dat (nrow other), .dat (.str (PyData.list [nrow one, nrow other]).shown), .no, .no, .no, .no, .no, .no, .no, .no, .no, .no]) (by rw [← exs]; exact b61) (by rw [eΓ6]; rfl) (fun i t hi => by
    rw [eΓ6]
    rcases i with _ | _ | _ | _ | _ | i
    · cases hi; exact .inr (.inr ⟨p', rfl, rfl, fp⟩)
    · cases hi; exact .inr (.inl ⟨_, rfl, rfl, trivial⟩)
    · cases hi; exact .inr (.inl ⟨_, rfl, rfl, fl _⟩)
    · cases hi; exact .inr (.inl ⟨_, rfl, rfl, fl _⟩)
    · cases hi; exact .inr (.inl ⟨_, rfl, rfl, trivial⟩)
    · refine .inl ?_
      have : ([.no, .no, .no, .no, .no, .no, .no, .no, .no, .no] : En)[i]? = some t := hi
      have hm := List.mem_of_getElem? this
      simp at hm
      exact hm)
  have ph4 : SV X [0] ((part 7 2).drop 1) [.own p', .dat (.int (n : Nat)), .dat (nrow one), .dat (nrow other), .dat (.str (PyData.list [nrow one, nrow other]).shown), .no, .no, .no, .no, .no, .no, .no, .no, .no, .no] { nx := fun _ => False, rt := fun r Γ' => r = .dat (.bool true) ∧ Γ' = [.own p', .dat (.int (n : Nat)), .dat (nrow one), .dat (nrow other), .dat (.str (PyData.list [nrow one, nrow other]).shown), .no, .no, .no, .no, .no, .no, .no, .no, .no, .no] } := by
    exact sv_ret (BR.ev (bv_eqSame (bv_repr hgd (hu102 hr) (by rfl) m_repr (br_give (br_lst (ba_cons (bv_v 2 rfl) (ba_cons (bv_v 3 rfl) ba_nil)) (by first | exact Nat.le_of_ble_eq_true rfl | decide | assumption | (simp [sizeLine_eq]; omega)))) t1) (bv_v 4 rfl)) ⟨rfl, rfl⟩)
  refine ph4 σ6 _ _ sc _ (fun _ _ _ _ _ z => z.elim) (fun r v Γ8 σ8 B8 H8 o8 g8 z => ?_) (fun _ _ _ _ _ z => z.elim) (fun _ _ _ _ _ z => z.elim)
  obtain ⟨rfl, rfl⟩ := z
  have o56 : OutS X.K [0] (start N40 vs) (startE N40 [.own p, .dat (.int (n : Nat)), .dat (nrow one), .dat (nrow other)]) B H σ6 Γ6 B6 H6 := by
    have o6' : OutS X.K [0] _ _ _ _ σ6 Γ6 B6 H6 := ⟨o6.step, o6.own, fun i hi => o6.fix i (by rcases List.mem_singleton.mp hi with rfl; decide), o6.st⟩
    exact o5.trans o6'
  have nB : B p1 = none := s1.sub.free fresh1
  have ow : ∀ i a, ownAt [.own p', .dat (.int (n : Nat)), .dat (nrow one), .dat (nrow other), .dat (.str (PyData.list [nrow one, nrow other]).shown), .no, .no, .no, .no, .no, .no, .no, .no, .no, .no] σ6 i a → ownAt Γ6 σ6 i a := fun i a ⟨w1, w2⟩ => by
    refine ⟨w1, ?_⟩
    rw [eΓ6]
    rcases i with _ | _ | _ | _ | _ | i
    · trivial
    · exact w2.elim
    · exact w2.elim
    · exact w2.elim
    · exact w2.elim
    · exfalso
      cases hi : ([.no, .no, .no, .no, .no, .no, .no, .no, .no, .no] : En)[i]? with
      | none =>
        have w2' : isOwn ([.no, .no, .no, .no, .no, .no, .no, .no, .no, .no] : En)[i]? := w2
        rw [hi] at w2'; exact w2'
      | some t =>
        have w2' : isOwn ([.no, .no, .no, .no, .no, .no, .no, .no, .no, .no] : En)[i]? := w2
        rw [hi] at w2'
        have hm := List.mem_of_getElem? hi
        simp at hm
        subst hm
        exact w2'
  have nO : ∀ a, ¬ Owned (startE N40 [.own p, .dat (.int (n : Nat)), .dat (nrow one), .dat (nrow other)]) (start N40 vs) a → H a ≠ none → ¬ Owned [.own p', .dat (.int (n : Nat)), .dat (nrow one), .dat (nrow other), .dat (.str (PyData.list [nrow one, nrow other]).shown), .no, .no, .no, .no, .no, .no, .no, .no, .no, .no] σ6 a := fun a n1 n2 ⟨i, hi⟩ => by
    rcases o56.own i a (ow i a hi) with z | z
    · exact n1 ⟨i, z⟩
    · exact n2 z
  have oT : OutS X.K [0] (start N40 vs) (startE N40 [.own p, .dat (.int (n : Nat)), .dat (nrow one), .dat (nrow other)]) B H σ8 [.own p', .dat (.int (n : Nat)), .dat (nrow one), .dat (nrow other), .dat (.str (PyData.list [nrow one, nrow other]).shown), .no, .no, .no, .no, .no, .no, .no, .no, .no, .no] B8 H8 := by
    refine ⟨⟨fun a ob ha => ?_, o8.st.sub, fun a ob nw ha => ?_, fun a ha => ?_, fun a nw ha hb => ?_⟩, fun i a ha => ?_, fun i hi => (o8.fix i hi).trans (o56.fix i hi), o8.st⟩
    · refine o8.step.ex a ob ?_
      have : a ≠ p1 := fun z => by subst z; rw [nB] at ha; cases ha
      show (if a = p1 then none else B6 a) = some ob
      rw [if_neg this]
      exact o56.step.ex a ob ha
    · have : a ≠ p1 := fun z => by subst z; rw [fresh1] at ha; cases ha
      refine o8.step.keep a ob (nO a nw (by rw [ha]; exact fun z => nomatch z)) ?_
      rw [upd_ne this]
      exact o56.step.keep a ob nw ha
    · have h7 := o8.step.dom a ha
      by_cases z : a = p1
      · subst z; exact fresh1
      · rw [upd_ne z] at h7
        exact o56.step.dom a h7
    · have : a ≠ p1 := fun z => by subst z; exact ha fresh1
      refine o8.step.new a (nO a nw ha) ?_ ?_
      · rw [upd_ne this]
        exact fun z => ha (o56.step.dom a z)
      · show (if a = p1 then none else B6 a) = none
        rw [if_neg this]
        exact o56.step.new a nw ha hb
    · rcases o8.own i a ha with z | z
      · exact o56.own i a (ow i a z)
      · by_cases zz : a = p1
        · subst zz; rw [upd_same] at z; cases z
        · rw [upd_ne zz] at z
          exact .inr (o56.step.dom a z)
  exact run_fin (fix := [0]) (own_of rfl) st q oT (r := .dat (.bool true)) g8 (hΦ p' hp')
end
end K75
set_option Elab.async false
set_option autoImplicit false
set_option linter.all false
set_option maxRecDepth 100000
set_option maxHeartbeats 4000000
/-! M15: what ways_from ends in: each reached row has its way back. No program in sight. -/
namespace K75
open PySem PySem.Spec PyProof.Rows L2 Bv
theorem iw_init (one : List Nat) : IW one ([(one, none)], [one], []) := by
  have hk : ∀ r, r ∈ keysF [(one, (none : Option (List Nat)))] ↔ r = one := fun r => by unfold keysF; simp
  have d0 : Dist one one 0 := ⟨Reach.base, fun c _ => Nat.zero_le c⟩
  refine ⟨⟨0, (hk one).mpr rfl, fun r hr => ?_, fun c' r h => absurd h (Nat.not_lt_zero _), fun r hr => ?_, fun q hq => absurd hq List.not_mem_nil, fun r hr h2 => ?_, fun r hr d hd => absurd hd (Nat.not_lt_zero _)⟩, fun e => absurd e (List.cons_ne_nil _ _)⟩
  · have e := (hk r).mp hr
    subst e
    exact ⟨0, [r], Nat.le_refl _, d0, way_one r⟩
  · rw [List.mem_singleton.mp hr]
    exact ⟨(hk one).mpr rfl, d0⟩
  · exact absurd (by rw [(hk r).mp hr]; exact List.mem_cons_self) h2
theorem w_all {n : Nat} (hn : n < 6) {one : List Nat} (h1 : isRow n one = true) : WOk one (fun s => JW n s ∧ IW one s) mW :=
  w_and (w_ok hn h1) (iw_init one) fun _ _ hI hne => lab_turn hI hne
theorem w_end {n : Nat} (hn : n < 6) {one other : List Nat} {s : St3} (hJ : JW n s) (hI : IW one s) (he : s.2.1 = []) {c : Nat} (hc : Reach one c other) : ∃ d L, Dist one other d ∧ Way s.1 one other d L := by
  obtain ⟨⟨c0, h⟩, hl⟩ := hI
  have el := hl he
  have hm : other ∈ keysF s.1 := reach_closed (S := fun r => r ∈ keysF s.1) h.one_in (fun r hr q hq => by
    rcases h.closed r hr (by rw [he]; exact List.not_mem_nil) (fun z => z) q hq with g | ⟨_, z, hz, _⟩
    · exact g
    · rw [el] at hz; cases hz) hc
  obtain ⟨d, L, _, e2, e3⟩ := h.lab other hm
  exact ⟨d, L, e2, e3⟩
theorem way_ne {fo : Found} {one r : List Nat} {d : Nat} {L : List (List Nat)} (h : Way fo one r d L) : ∃ T, L = r :: T := by
  cases L with
  | nil => cases h.head
  | cons a T => exact ⟨T, by rw [Option.some.inj h.head]⟩
theorem way_told {n : Nat} (hn : n < 6) {one other : List Nat} {s : St3} (hJ : JW n s) {d : Nat} {L : List (List Nat)} (h : Way s.1 one other d L) : Back s.1 one other L ∧ Told n one other d L.reverse := by
  have lf := good_len hn hJ.g3.good
  obtain ⟨T, eT⟩ := way_ne h
  have rows : ∀ r ∈ L, isRow n r = true := fun r hr => hJ.g3.good.rows r (h.keys r hr)
  have hlast : L.getLast? = some one := by
    rw [List.getLast?_eq_getElem?]
    have hpos : 0 < L.length := by rw [eT]; exact Nat.succ_pos _
    have hl : L[L.length - 1]? = some (L[L.length - 1]'(by omega)) := List.getElem?_eq_getElem (by omega)
    rw [hl, (h.last _ _ hl).mpr (by omega)]
  refine ⟨way_back h lf, ⟨by rw [List.length_reverse, eT]; exact Nat.succ_pos _, by rw [List.length_reverse]; have := h.size; omega, fun r hr => row_small n r (by omega) (rows r (List.mem_reverse.mp hr)), ?_, h.cost⟩⟩
  have ef : (L.reverse.map some).filterMap id = L.reverse := by simp
  unfold pathOk
  rw [ef]
  simp only [Bool.and_eq_true, decide_eq_true_eq]
  refine ⟨⟨⟨⟨?_, ?_⟩, ?_⟩, ?_⟩, h.steps⟩
  · rw [eT]; simp
  · rw [List.all_map, List.all_eq_true]
    intro r hr
    exact rows r (List.mem_reverse.mp hr)
  · rw [List.head?_reverse]; exact hlast
  · rw [List.getLast?_reverse, eT]; rfl
end K75
set_option Elab.async false
set_option autoImplicit false
set_option linter.all false
set_option maxRecDepth 100000
set_option maxHeartbeats 4000000
/-! M16: _law_around: rows that turns lead to. No program in sight. -/
namespace K75
open PySem PySem.Spec PyProof.Rows L2 Bv
theorem hasK_iff {ks : List (List Nat)} {l : List Nat} : hasK ks l = true ↔ l ∈ ks := by
  unfold hasK
  rw [List.any_eq_true]
  constructor
  · rintro ⟨q, h1, h2⟩
    rw [← of_decide_eq_true h2]; exact h1
  · exact fun h => ⟨l, h, decide_eq_true rfl⟩
theorem mem_zero {r l : List Nat} : l ∈ zero r ↔ (false, l) ∈ mt r := by
  unfold zero
  simp only [List.mem_map, List.mem_filter, Bool.not_eq_true']
  constructor
  · rintro ⟨⟨b, m⟩, ⟨h1, h2⟩, h3⟩
    simp only at h2 h3
    subst h2 h3
    exact mem_lm.mp h1
  · exact fun h => ⟨(false, l), ⟨mem_lm.mpr h, rfl⟩, rfl⟩
theorem mem_threes {r l : List Nat} : l ∈ threes r ↔ (true, l) ∈ mt r := by
  unfold threes
  simp only [List.mem_map, List.mem_filter]
  constructor
  · rintro ⟨⟨b, m⟩, ⟨h1, h2⟩, h3⟩
    simp only at h2 h3
    subst h2 h3
    exact mem_lm.mp h1
  · exact fun h => ⟨(true, l), ⟨mem_lm.mpr h, rfl⟩, rfl⟩
theorem zero_len (r : List Nat) : (zero r).length ≤ 2 * r.length := by
  unfold zero
  rw [List.length_map]
  have h1 : ((lm r).filter fun q => !q.1).length ≤ (lm r).length := List.length_filter_le _ _
  have h2 := lm_len r
  omega
theorem row10 {n : Nat} (hn : n < 6) {r : List Nat} (h : isRow n r = true) : r.length ≤ 10 := by
  rw [row_len h]
  rcases (show n = 0 ∨ n = 1 ∨ n = 2 ∨ n = 3 ∨ n = 4 ∨ n = 5 by omega) with e | e | e | e | e | e <;> subst e <;> decide
/-- under way in _law_around; S: a set that holds the rows and is closed under turns -/
structure JA (n : Nat) (S : List Nat → Prop) (rows known : List (List Nat)) (s : StA) : Prop where
  nodup : s.1.Nodup
  row : ∀ r ∈ s.1, isRow n r = true
  row2 : ∀ r ∈ s.2, isRow n r = true
  sm : ∀ r ∈ s.1, S r
  sm2 : ∀ r ∈ s.2, S r
  all : ∀ r ∈ rows, r ∈ s.1 ∨ r ∈ known ∨ r ∈ s.2
  new : ∀ r ∈ s.1, r ∉ known
  closed : ∀ r ∈ s.1, ∀ l, (false, l) ∈ mt r → l ∈ s.1 ∨ l ∈ known ∨ l ∈ s.2
  size : s.2.length + 20 * 0 ≤ rows.length + 20 * s.1.length
/-- what it ends in -/
structure RA (n : Nat) (S : List Nat → Prop) (rows known res : List (List Nat)) : Prop where
  nodup : res.Nodup
  row : ∀ r ∈ res, isRow n r = true
  sm : ∀ r ∈ res, S r
  all : ∀ r ∈ rows, r ∈ res ∨ r ∈ known
  new : ∀ r ∈ res, r ∉ known
  closed : ∀ r ∈ res, ∀ l, (false, l) ∈ mt r → l ∈ res ∨ l ∈ known
def mA (s : StA) : Nat := 21 * (768 - s.1.length) + s.2.length
theorem last_split {α : Type} {L : List α} {d : α} (h : L ≠ []) : L = L.dropLast ++ [L.getLastD d] := by
  have e := List.dropLast_concat_getLast h
  rw [List.getLastD_eq_getLast?, List.getLast?_eq_some_getLast h]
  exact e.symm
theorem around_ok {n : Nat} (hn : n < 6) {S : List Nat → Prop} {rows known : List (List Nat)} (hr : ∀ r ∈ rows, isRow n r = true) (hs : ∀ r ∈ rows, S r) (hz : ∀ r, S r → ∀ l, (false, l) ∈ mt r → S l) (hl : rows.length ≤ 100000) : AroundOk rows known (RA n S rows known) := by
  refine ⟨JA n S rows known, mA, ⟨⟨List.nodup_nil, by simp, hr, by simp, hs, fun r h => .inr (.inr h), by simp, by simp, by simp⟩, fun s h hne => ?_, fun s h => ?_, fun s h r hm => ?_⟩, fun s h he => ?_⟩
  · obtain ⟨fo, li⟩ := s
    have es := last_split (d := ([] : List Nat)) hne
    have ep : popped (fo, li) = li.getLastD [] := rfl
    generalize hp : li.getLastD [] = p at es ep
    generalize hd : li.dropLast = dl at es
    simp only at es
    subst es
    have hpr : isRow n p = true := h.row2 p (by simp)
    have hps : S p := h.sm2 p (by simp)
    unfold aStep
    rw [ep]
    simp only [List.dropLast_concat]
    by_cases g : (hasK fo p || hasK known p) = true
    · rw [if_pos g]
      have mv : ∀ {r : List Nat}, r ∈ fo ∨ r ∈ known ∨ r ∈ dl ++ [p] → r ∈ fo ∨ r ∈ known ∨ r ∈ dl := by
        rintro r (z | z | z)
        · exact .inl z
        · exact .inr (.inl z)
        · rcases List.mem_append.mp z with z | z
          · exact .inr (.inr z)
          · rw [List.mem_singleton.mp z]
            rcases Bool.or_eq_true_iff.mp g with g | g
            · exact .inl (hasK_iff.mp g)
            · exact .inr (.inl (hasK_iff.mp g))
      have sz := h.size
      simp only [List.length_append, List.length_singleton] at sz
      refine ⟨⟨h.nodup, h.row, fun r z => h.row2 r (List.mem_append_left _ z), h.sm, fun r z => h.sm2 r (List.mem_append_left _ z), fun r z => mv (h.all r z), h.new, fun r z l zl => mv (h.closed r z l zl), by simp only; omega⟩, ?_⟩
      show 21 * (768 - fo.length) + dl.length < 21 * (768 - fo.length) + (dl ++ [p]).length
      rw [List.length_append, List.length_singleton]
      omega
    · rw [if_neg g]
      have n1 : p ∉ fo := fun z => g (by rw [hasK_iff.mpr z]; rfl)
      have n2 : p ∉ known := fun z => g (by rw [hasK_iff.mpr z, Bool.or_true])
      have mv : ∀ {r : List Nat}, r ∈ fo ∨ r ∈ known ∨ r ∈ dl ++ [p] → r ∈ fo ++ [p] ∨ r ∈ known ∨ r ∈ dl ++ zero p := by
        rintro r (z | z | z)
        · exact .inl (List.mem_append_left _ z)
        · exact .inr (.inl z)
        · rcases List.mem_append.mp z with z | z
          · exact .inr (.inr (List.mem_append_left _ z))
          · exact .inl (List.mem_append_right _ z)
      have nd : (fo ++ [p]).Nodup := List.nodup_append.mpr ⟨h.nodup, List.nodup_cons.mpr ⟨List.not_mem_nil, List.nodup_nil⟩, fun a ha b hb e => by
        rw [List.mem_singleton.mp hb] at e
        subst e
        exact n1 ha⟩
      have rw1 : ∀ r ∈ fo ++ [p], isRow n r = true := fun r z => by
        rcases List.mem_append.mp z with z | z
        · exact h.row r z
        · rw [List.mem_singleton.mp z]; exact hpr
      have few := rows_few hn nd rw1
      have zl := zero_len p
      have p10 := row10 hn hpr
      have sz := h.size
      simp only [List.length_append, List.length_singleton] at sz few
      refine ⟨⟨nd, rw1, fun r z => ?_, fun r z => ?_, fun r z => ?_, fun r z => mv (h.all r z), fun r z => ?_, fun r z l zl => ?_, by simp only [List.length_append, List.length_singleton]; omega⟩, ?_⟩
      · rcases List.mem_append.mp z with z | z
        · exact h.row2 r (List.mem_append_left _ z)
        · exact row_move (q := (false, r)) hpr (mem_zero.mp z)
      · rcases List.mem_append.mp z with z | z
        · exact h.sm r z
        · rw [List.mem_singleton.mp z]; exact hps
      · rcases List.mem_append.mp z with z | z
        · exact h.sm2 r (List.mem_append_left _ z)
        · exact hz p hps r (mem_zero.mp z)
      · rcases List.mem_append.mp z with z | z
        · exact h.new r z
        · rw [List.mem_singleton.mp z]; exact n2
      · rcases List.mem_append.mp z with z | z
        · exact mv (h.closed r z l zl)
        · rw [List.mem_singleton.mp z] at zl
          exact .inr (.inr (List.mem_append_right _ (mem_zero.mpr zl)))
      · show 21 * (768 - (fo ++ [p]).length) + (dl ++ zero p).length < 21 * (768 - fo.length) + (dl ++ [p]).length
        simp only [List.length_append, List.length_singleton]
        omega
  · have f := rows_few hn h.nodup h.row
    have := h.size
    omega
  · have := row10 hn (h.row2 r hm)
    omega
  · refine ⟨h.nodup, h.row, h.sm, fun r z => ?_, h.new, fun r z l zl => ?_⟩
    · rcases h.all r z with g | g | g
      · exact .inl g
      · exact .inr g
      · rw [he] at g; cases g
    · rcases h.closed r z l zl with g | g | g
      · exact .inl g
      · exact .inr g
      · rw [he] at g; cases g
end K75
set_option Elab.async false
set_option autoImplicit false
set_option linter.all false
set_option maxRecDepth 100000
set_option maxHeartbeats 4000000
/-! M17: _law_fewest finds the distance. No program in sight. -/
namespace K75
open PySem PySem.Spec PyProof.Rows L2 Bv
theorem mem_addK {ks : List (List Nat)} {l r : List Nat} : r ∈ addK ks l ↔ r ∈ ks ∨ r = l := by
  unfold addK
  by_cases h : hasK ks l = true
  · rw [if_pos h]
    exact ⟨.inl, fun z => z.elim id fun e => by rw [e]; exact hasK_iff.mp h⟩
  · rw [if_neg h, List.mem_append, List.mem_singleton]
theorem mem_addAll {r : List Nat} (l : List (List Nat)) : ∀ ks, r ∈ addAll ks l ↔ r ∈ ks ∨ r ∈ l := by
  induction l with
  | nil => intro ks; exact ⟨.inl, fun z => z.elim id fun e => nomatch e⟩
  | cons a l ih =>
    intro ks
    show r ∈ addAll (addK ks a) l ↔ _
    rw [ih, mem_addK, List.mem_cons]
    exact or_assoc
theorem addK_nodup {ks : List (List Nat)} {l : List Nat} (h : ks.Nodup) : (addK ks l).Nodup := by
  unfold addK
  by_cases g : hasK ks l = true
  · rw [if_pos g]; exact h
  · rw [if_neg g]
    exact List.nodup_append.mpr ⟨h, List.nodup_cons.mpr ⟨List.not_mem_nil, List.nodup_nil⟩, fun a ha b hb e => by
      rw [List.mem_singleton.mp hb] at e
      subst e
      exact g (hasK_iff.mpr ha)⟩
theorem addAll_nodup (l : List (List Nat)) : ∀ ks : List (List Nat), ks.Nodup → (addAll ks l).Nodup := by
  induction l with
  | nil => intro ks h; exact h
  | cons a l ih => intro ks h; exact ih _ (addK_nodup h)
/-- behind round c: found is what is reached with at most c, near what is reached with c and no less -/
structure JF (n : Nat) (one : List Nat) (dist : Nat) (near : List (List Nat)) (c : Nat) (found : List (List Nat)) : Prop where
  nodup : found.Nodup
  row : ∀ r ∈ found, isRow n r = true
  nodup2 : near.Nodup
  sub : ∀ r ∈ near, r ∈ found ∧ Reach one c r
  full : ∀ r, r ∈ found ↔ ∃ c', c' ≤ c ∧ Reach one c' r
  edge : ∀ r, Dist one r c → r ∈ near
  le : c ≤ dist
theorem dist_of {one r : List Nat} {c : Nat} (h : Reach one c r) : ∃ d, d ≤ c ∧ Dist one r d := by
  induction c using Nat.strongRecOn with
  | _ c ih =>
    by_cases g : ∃ c', c' < c ∧ Reach one c' r
    · obtain ⟨c', h1, h2⟩ := g
      obtain ⟨d, h3, h4⟩ := ih c' h1 h2
      exact ⟨d, by omega, h4⟩
    · exact ⟨c, Nat.le_refl _, h, fun c' hc => Nat.le_of_not_lt fun hlt => g ⟨c', hlt, hc⟩⟩
theorem flat_len {n : Nat} (hn : n < 6) : ∀ {near : List (List Nat)}, (∀ r ∈ near, isRow n r = true) → (near.flatMap threes).length ≤ 20 * near.length
  | [], _ => Nat.zero_le _
  | r :: near, h => by
    have h1 := flat_len hn (near := near) fun z hz => h z (List.mem_cons_of_mem _ hz)
    have h2 := threes_len r
    have h3 := row10 hn (h r List.mem_cons_self)
    rw [List.flatMap_cons, List.length_append, List.length_cons]
    omega
theorem f_ok {n : Nat} (hn : n < 6) {one other : List Nat} (h1 : isRow n one = true) {dist : Nat} (hd : Dist one other dist) : FOk one other (JF n one dist) fun _ c _ => dist - c := by
  have mono : ∀ {S T : List (List Nat) → Prop} {rows known : List (List Nat)}, AroundOk rows known S → (∀ res, S res → T res) → AroundOk rows known T := fun ⟨J, m, a, b⟩ g => ⟨J, m, a, fun s x y => g _ (b s x y)⟩
  refine ⟨?_, fun near c found h hne => ?_, fun near c found h => ?_, fun near c found h r hr => ?_⟩
  · refine mono (around_ok (S := Reach one 0) hn (fun r hr => by rw [List.mem_singleton.mp hr]; exact h1) (fun r hr => by rw [List.mem_singleton.mp hr]; exact Reach.base) (fun r hr l hl => Reach.zero hr hl) (by rw [List.length_singleton]; decide)) fun res g => ?_
    have all0 : ∀ c r, Reach one c r → c = 0 → r ∈ res := by
      intro c r hr
      induction hr with
      | base => intro _; rcases g.all one List.mem_cons_self with z | z; exact z; cases z
      | zero _ hm ih =>
        intro e
        rcases g.closed _ (ih e) _ hm with z | z
        · exact z
        · cases z
      | three _ _ _ => intro e; cases e
    refine ⟨addAll_nodup _ _ List.nodup_nil, fun r hr => ?_, g.nodup, fun r hr => ⟨(mem_addAll _ _).mpr (.inr hr), g.sm r hr⟩, fun r => ?_, fun r hr => all0 0 r hr.1 rfl, Nat.zero_le _⟩
    · rcases (mem_addAll _ _).mp hr with z | z
      · cases z
      · exact g.row r z
    · rw [mem_addAll]
      constructor
      · rintro (z | z)
        · cases z
        · exact ⟨0, Nat.le_refl _, g.sm r z⟩
      · rintro ⟨c', hc, hr⟩
        exact .inr (all0 c' r hr (by omega))
  · have hlt : c < dist := by
      refine Nat.lt_of_not_le fun z => ?_
      have : other ∈ found := (h.full other).mpr ⟨dist, z, hd.1⟩
      rw [hasK_iff.mpr this] at hne
      cases hne
    have nrow : ∀ r ∈ near, isRow n r = true := fun r hr => h.row r (h.sub r hr).1
    have nlen := rows_few hn h.nodup2 nrow
    have fl := flat_len hn nrow
    have inF : ∀ r ∈ near.flatMap threes, ∃ q ∈ near, (true, r) ∈ mt q := fun r hr => by
      obtain ⟨q, z1, z2⟩ := List.mem_flatMap.mp hr
      exact ⟨q, z1, mem_threes.mp z2⟩
    refine mono (around_ok (S := Reach one (c + 1)) hn (fun r hr => ?_) (fun r hr => ?_) (fun r hr l hl => Reach.zero hr hl) (by omega)) fun res g => ⟨?_, by omega⟩
    · obtain ⟨q, z1, z2⟩ := inF r hr
      exact row_move (q := (true, r)) (nrow q z1) z2
    · obtain ⟨q, z1, z2⟩ := inF r hr
      exact Reach.three (h.sub q z1).2 z2
    · have all1 : ∀ c' r, Reach one c' r → c' ≤ c + 1 → r ∈ found ∨ r ∈ res := by
        intro c' r hr
        induction hr with
        | base => intro _; exact .inl ((h.full one).mpr ⟨0, Nat.zero_le _, Reach.base⟩)
        | @zero c1 r1 l1 _ hm ih =>
          intro e
          rcases ih e with z | z
          · obtain ⟨c2, y1, y2⟩ := (h.full _).mp z
            exact .inl ((h.full _).mpr ⟨c2, y1, Reach.zero y2 hm⟩)
          · rcases g.closed _ z _ hm with y | y
            · exact .inr y
            · exact .inl y
        | @three c1 r1 l1 hr1 hm ih =>
          intro e
          obtain ⟨d, y1, y2⟩ := dist_of hr1
          by_cases z : d < c
          · exact .inl ((h.full _).mpr ⟨d + 1, by omega, Reach.three y2.1 hm⟩)
          · have ed : d = c := by omega
            subst ed
            rcases g.all l1 (List.mem_flatMap.mpr ⟨r1, h.edge r1 y2, mem_threes.mpr hm⟩) with y | y
            · exact .inr y
            · exact .inl y
      refine ⟨addAll_nodup _ _ h.nodup, fun r hr => ?_, g.nodup, fun r hr => ⟨(mem_addAll _ _).mpr (.inr hr), g.sm r hr⟩, fun r => ?_, fun r hr => ?_, hlt⟩
      · rcases (mem_addAll _ _).mp hr with z | z
        · exact h.row r z
        · exact g.row r z
      · rw [mem_addAll]
        constructor
        · rintro (z | z)
          · obtain ⟨c2, y1, y2⟩ := (h.full _).mp z
            exact ⟨c2, by omega, y2⟩
          · exact ⟨c + 1, Nat.le_refl _, g.sm r z⟩
        · rintro ⟨c', hc, hr⟩
          exact all1 c' r hr hc
      · rcases all1 _ r hr.1 (Nat.le_refl _) with z | z
        · obtain ⟨c2, y1, y2⟩ := (h.full _).mp z
          have := hr.2 _ y2
          omega
        · exact z
  · have nrow : ∀ r ∈ near, isRow n r = true := fun r hr => h.row r (h.sub r hr).1
    have nlen := rows_few hn h.nodup2 nrow
    have flen := rows_few hn h.nodup h.row
    have fl := flat_len hn nrow
    exact ⟨by omega, by omega, by omega⟩
  · have := row10 hn (h.row r (h.sub r hr).1)
    omega
theorem f_end {n : Nat} {one other : List Nat} {dist : Nat} (hd : Dist one other dist) {near found : List (List Nat)} {c : Nat} (h : JF n one dist near c found) (hm : hasK found other = true) : c = dist := by
  obtain ⟨c', h1, h2⟩ := (h.full other).mp (hasK_iff.mp hm)
  have := hd.2 _ h2
  have := h.le
  omega
/-- the whole: RightOk where other is reached -/
theorem right_ok {n : Nat} (hn : n < 6) {one other : List Nat} (h1 : isRow n one = true) {c : Nat} (hc : Reach one c other) : RightOk n one other := by
  obtain ⟨d, _, hd⟩ := dist_of hc
  refine ⟨d, _, _, _, _, w_all hn h1, f_ok hn h1 hd, fun s ⟨hJ, hI⟩ he => ?_, fun near c found h hm => f_end hd h hm⟩
  obtain ⟨d', L, e1, e2⟩ := w_end hn hJ hI he hc
  have := dist_uniq e1 hd
  subst this
  exact ⟨L, way_told hn hJ e2⟩
end K75
set_option Elab.async false
set_option autoImplicit false
set_option linter.all false
set_option maxRecDepth 100000
set_option maxHeartbeats 4000000
/-! M18: which rows are reached: what a walk ends in; all rows of n < 5. No program in sight. -/
namespace K75
open PySem PySem.Spec PyProof.Rows L2 Bv
theorem reach_step {one r l : List Nat} {c : Nat} (h : Reach one c r) (hs : stepIn r l = true) : ∃ c', Reach one c' l := by
  obtain ⟨⟨b, m⟩, h1, h2⟩ := List.any_eq_true.mp hs
  have h2 : m = l := of_decide_eq_true h2
  subst h2
  cases b with
  | false => exact ⟨c, Reach.zero h h1⟩
  | true => exact ⟨c + 1, Reach.three h h1⟩
theorem reach_steps {one : List Nat} : ∀ (L : List (List Nat)) (r : List Nat), steps (r :: L) = true → (∃ c, Reach one c r) → ∀ q ∈ r :: L, ∃ c, Reach one c q
  | [], r, _, hr, q, hq => by rw [List.mem_singleton.mp hq]; exact hr
  | l :: L, r, h, hr, q, hq => by
    obtain ⟨h1, h2⟩ := Bool.and_eq_true_iff.mp (show (stepIn r l && steps (l :: L)) = true from h)
    rcases List.mem_cons.mp hq with rfl | hq
    · exact hr
    · obtain ⟨c, hc⟩ := hr
      exact reach_steps L l h2 (reach_step hc h1) q hq
theorem walk_reach {r q : List Nat} {L : List (List Nat)} (h : Walk r L) (hq : q ∈ L) : ∃ c, Reach r c q := by
  cases L with
  | nil => cases hq
  | cons a L =>
    have e : a = r := Option.some.inj h.1
    subst e
    exact reach_steps L a h.2.1 ⟨0, Reach.base⟩ q hq
def spread (ks : List (List Nat)) : List (List Nat) := addAll ks (ks.flatMap fun r => (mt r).map (·.2))
theorem spread_reach {one : List Nat} {ks : List (List Nat)} (h : ∀ r ∈ ks, ∃ c, Reach one c r) : ∀ r ∈ spread ks, ∃ c, Reach one c r := fun r hr => by
  rcases (mem_addAll _ _).mp hr with z | z
  · exact h r z
  · obtain ⟨q, h1, h2⟩ := List.mem_flatMap.mp z
    obtain ⟨m, h3, rfl⟩ := List.mem_map.mp h2
    obtain ⟨c, hc⟩ := h q h1
    exact reach_step hc (stepIn_of h3)
def spreads : Nat → List (List Nat) → List (List Nat)
  | 0, ks => ks
  | k + 1, ks => spreads k (spread ks)
theorem spreads_reach {one : List Nat} : ∀ (k : Nat) {ks : List (List Nat)}, (∀ r ∈ ks, ∃ c, Reach one c r) → ∀ r ∈ spreads k ks, ∃ c, Reach one c r
  | 0, _, h => h
  | k + 1, _, h => spreads_reach k (spread_reach h)
theorem all_reach4 : ∀ n : Fin 5, ((allRows n.val).all fun one => (allRows n.val).all fun other => hasK (spreads 8 [one]) other) = true := by decide +kernel
theorem rows_reach {n : Nat} (hn : n < 5) {one other : List Nat} (h1 : isRow n one = true) (h2 : isRow n other = true) : ∃ c, Reach one c other := by
  have h := List.all_eq_true.mp (List.all_eq_true.mp (all_reach4 ⟨n, hn⟩) one (mem_allRows h1)) other (mem_allRows h2)
  exact spreads_reach 8 (fun r hr => by rw [List.mem_singleton.mp hr]; exact ⟨0, Reach.base⟩) other (hasK_iff.mp h)
theorem right_few {n : Nat} (hn : n < 5) {one other : List Nat} (h1 : isRow n one = true) (h2 : isRow n other = true) : RightOk n one other := by
  obtain ⟨c, hc⟩ := rows_reach hn h1 h2
  exact right_ok (by omega) h1 hc
theorem right_walk {n : Nat} (hn : n < 6) {one q : List Nat} {L : List (List Nat)} (h1 : isRow n one = true) (h : Walk one L) (hq : q ∈ L) : RightOk n one q := by
  obtain ⟨c, hc⟩ := walk_reach h hq
  exact right_ok hn h1 hc
end K75
set_option Elab.async false
set_option autoImplicit false
set_option linter.all false
set_option maxRecDepth 100000
set_option maxHeartbeats 4000000
/-! M19: both lists of moves, sorted, are one. No program in sight. -/
namespace K75
open PySem PySem.Spec PyProof.Rows L2 Bv
theorem sort_perm {a b : List (List Int)} (h : a.Perm b) : a.mergeSort rowLe = b.mergeSort rowLe := by
  have tr : ∀ x y z : List Int, rowLe x y = true → rowLe y z = true → rowLe x z = true := fun x y z h1 h2 => decide_eq_true (Std.le_trans (of_decide_eq_true h1) (of_decide_eq_true h2))
  have tt : ∀ x y : List Int, (rowLe x y || rowLe y x) = true := fun x y => by
    unfold rowLe
    rcases Std.le_total (a := x) (b := y) with z | z
    · rw [decide_eq_true z]; rfl
    · rw [decide_eq_true z, Bool.or_true]
  refine List.Perm.eq_of_pairwise (le := fun x y => rowLe x y = true) (fun x y _ _ h1 h2 => Std.le_antisymm (of_decide_eq_true h1) (of_decide_eq_true h2)) (List.pairwise_mergeSort tr tt a) (List.pairwise_mergeSort tr tt b) ?_
  exact ((List.mergeSort_perm a _).trans h).trans (List.mergeSort_perm b _).symm
def mtL (r : List Nat) (n : Nat) : List (Bool × List Nat) := (List.range n).flatMap fun k => (threeL r k).map fun l => (true, l)
theorem mtL_succ (r : List Nat) (n : Nat) : mtL r (n + 1) = mtL r n ++ (threeL r n).map fun l => (true, l) := by
  unfold mtL
  rw [List.range_succ, List.flatMap_append]
  simp
theorem lmN_perm (r : List Nat) : ∀ n, (lmN r n).Perm (mt1 r n ++ mtL r n)
  | 0 => List.Perm.refl _
  | n + 1 => by
    rw [lmN_succ, mt1_succ, mtL_succ, List.perm_iff_count]
    intro a
    have := (lmN_perm r n).count_eq a
    simp only [List.count_append] at this ⊢
    omega
theorem mtL_same (r : List Nat) : ∀ n, n + 2 ≤ r.length → mtL r n = mt2 r n
  | 0, _ => rfl
  | n + 1, h => by rw [mtL_succ, mt2_succ, mtL_same r n (by omega), three_same (by omega)]
theorem lm_perm (r : List Nat) : (lm r).Perm (mt r) := by
  have h := lmN_perm r (r.length - 1)
  have e : mtL r (r.length - 1) = mt2 r (r.length - 2) := by
    by_cases h2 : 2 ≤ r.length
    · rw [show r.length - 1 = (r.length - 2) + 1 by omega, mtL_succ, mtL_same r _ (by omega), three_no (by omega) (by omega)]
      simp
    · rw [show r.length - 1 = 0 by omega, show r.length - 2 = 0 by omega]
      rfl
  rw [e] at h
  exact h
theorem sort_moves (r : List Nat) : sortN ((lm r).map (·.2)) = sortN ((mt r).map (·.2)) := sort_perm (((lm_perm r).map _).map _)
theorem sorted_len (r : List Nat) : ((sortN ((mt r).map (·.2))).map row).length = (mt r).length := by
  unfold sortN
  rw [List.length_map, (List.mergeSort_perm _ _).length_eq, List.length_map, List.length_map]
theorem sorted_row {r : List Nat} {d : PyData} (h : d ∈ (sortN ((mt r).map (·.2))).map row) : ∃ l, d = nrow l ∧ ∃ b, (b, l) ∈ mt r := by
  obtain ⟨x, h1, rfl⟩ := List.mem_map.mp h
  unfold sortN at h1
  have h2 := (List.mergeSort_perm _ _).mem_iff.mp h1
  obtain ⟨l, h3, rfl⟩ := List.mem_map.mp h2
  obtain ⟨⟨b, l⟩, h4, rfl⟩ := List.mem_map.mp h3
  exact ⟨l, row_toI l, b, h4⟩
end K75
set_option Elab.async false
set_option autoImplicit false
set_option linter.all false
set_option maxRecDepth 100000
set_option maxHeartbeats 4000000
/-! M20: the law's own examples. No program in sight. -/
namespace K75
open PySem PySem.Spec PyProof.Rows L2 Bv
/-! ### far: the letters' sum grows by one braid at most -/
theorem sum_false {r l : List Nat} (h : (false, l) ∈ mt r) : l.sum = r.sum := by
  rcases mem_mt.mp h with ⟨_, k, hk, hl⟩ | ⟨e, _⟩
  · unfold swapAt at hl
    split at hl
    · have hl := List.mem_singleton.mp hl
      simp only at hl
      rw [hl]
      conv => rhs; rw [cut2 hk]
      unfold exch
      simp only [List.sum_append, List.sum_cons, List.sum_nil]
      omega
    · cases hl
  · cases e
theorem sum_true {r l : List Nat} (h : (true, l) ∈ mt r) : l.sum ≤ r.sum + 1 := by
  rcases mem_mt.mp h with ⟨e, _⟩ | ⟨_, k, hk, hl⟩
  · cases e
  · unfold threeAt at hl
    split at hl
    · rename_i hc
      obtain ⟨h1, h2⟩ := Bool.and_eq_true_iff.mp hc
      have h1 := of_decide_eq_true h1
      unfold nearB at h2
      have h2 := of_decide_eq_true h2
      have hl := List.mem_singleton.mp hl
      simp only at hl
      rw [hl]
      conv => rhs; rw [cut3 hk]
      unfold braid
      simp only [List.sum_append, List.sum_cons, List.sum_nil]
      omega
    · cases hl
theorem reach_sum {one : List Nat} {c : Nat} {r : List Nat} (h : Reach one c r) : r.sum ≤ one.sum + c := by
  induction h with
  | base => exact Nat.le_refl _
  | zero _ hm ih => rw [sum_false hm]; exact ih
  | three _ hm ih => have := sum_true hm; omega
def far1 : List Nat := [0, 1, 2, 3, 0, 1, 2, 0, 1, 0]
def far2 : List Nat := [3, 2, 1, 0, 3, 2, 1, 3, 2, 3]
def goes : List Nat → List (Bool × List Nat) → Bool
  | _, [] => true
  | r, q :: qs => (mt r).contains q && goes q.2 qs
theorem goes_reach {one : List Nat} : ∀ (qs : List (Bool × List Nat)) (r : List Nat) (c : Nat), Reach one c r → goes r qs = true → Reach one (c + (qs.filter fun q => q.1).length) ((qs.getLast?.map (·.2)).getD r)
  | [], r, c, h, _ => h
  | (b, l) :: qs, r, c, h, hg => by
    obtain ⟨h1, h2⟩ := Bool.and_eq_true_iff.mp hg
    have h1 := List.contains_iff_mem.mp h1
    have e : (((b, l) :: qs).getLast?.map (·.2)).getD r = (qs.getLast?.map (·.2)).getD l := by
      cases qs with
      | nil => rfl
      | cons q qs => rw [List.getLast?_cons_cons, List.getLast?_eq_some_getLast (List.cons_ne_nil q qs)]; rfl
    rw [e]
    cases b with
    | false => exact goes_reach qs l c (Reach.zero h h1) h2
    | true =>
      have := goes_reach qs l (c + 1) (Reach.three h h1) h2
      rw [List.filter_cons, if_pos rfl, List.length_cons]
      rw [show c + ((qs.filter fun q => q.1).length + 1) = c + 1 + (qs.filter fun q => q.1).length by omega]
      exact this
def farWay : List (Bool × List Nat) := [(true, [0, 1, 2, 3, 0, 1, 2, 1, 0, 1]), (true, [0, 1, 2, 3, 0, 2, 1, 2, 0, 1]), (false, [0, 1, 2, 3, 0, 2, 1, 0, 2, 1]), (false, [0, 1, 2, 3, 2, 0, 1, 0, 2, 1]), (true, [0, 1, 3, 2, 3, 0, 1, 0, 2, 1]), (true, [0, 1, 3, 2, 3, 1, 0, 1, 2, 1]), (false, [0, 1, 3, 2, 1, 3, 0, 1, 2, 1]), (true, [0, 1, 3, 2, 1, 3, 0, 2, 1, 2]), (false, [0, 1, 3, 2, 1, 3, 2, 0, 1, 2]), (false, [0, 3, 1, 2, 1, 3, 2, 0, 1, 2]), (true, [0, 3, 2, 1, 2, 3, 2, 0, 1, 2]), (true, [0, 3, 2, 1, 3, 2, 3, 0, 1, 2]), (false, [0, 3, 2, 1, 3, 2, 0, 3, 1, 2]), (false, [0, 3, 2, 1, 3, 2, 0, 1, 3, 2]), (false, [0, 3, 2, 1, 3, 0, 2, 1, 3, 2]), (false, [0, 3, 2, 1, 0, 3, 2, 1, 3, 2]), (false, [3, 0, 2, 1, 0, 3, 2, 1, 3, 2]), (false, [3, 2, 0, 1, 0, 3, 2, 1, 3, 2]), (true, [3, 2, 1, 0, 1, 3, 2, 1, 3, 2]), (false, [3, 2, 1, 0, 3, 1, 2, 1, 3, 2]), (true, [3, 2, 1, 0, 3, 2, 1, 2, 3, 2]), (true, [3, 2, 1, 0, 3, 2, 1, 3, 2, 3])]
theorem far_goes : goes far1 farWay = true := by decide +kernel
theorem far_dist : Dist far1 far2 10 := by
  have h := goes_reach farWay far1 0 Reach.base far_goes
  refine ⟨h, fun c hc => ?_⟩
  have := reach_sum hc
  have e1 : far1.sum = 10 := rfl
  have e2 : far2.sum = 20 := rfl
  omega
theorem far_row1 : isRow 5 far1 = true := by decide +kernel
theorem far_row2 : isRow 5 far2 = true := by decide +kernel
theorem far_ok {s : St3} (hJ : JW 5 s ∧ IW far1 s) (he : s.2.1 = []) : ∃ L, Back s.1 far1 far2 L ∧ Told 5 far1 far2 10 L.reverse := by
  obtain ⟨d, L, e1, e2⟩ := w_end (by decide) hJ.1 hJ.2 he far_dist.1
  have := dist_uniq e1 far_dist
  subst this
  exact ⟨L, way_told (by decide) hJ.1 e2⟩
/-! ### a search that is written out -/
def s3 : St3 := ([([0, 1, 0], none)], [[0, 1, 0]], [])
def s3a : St3 := ([([0, 1, 0], none), ([1, 0, 1], some [0, 1, 0])], [[1, 0, 1]], [])
def s3b : St3 := ([([0, 1, 0], none), ([1, 0, 1], some [0, 1, 0])], [], [])
theorem t3a : turn s3 = s3a := by decide +kernel
theorem t3b : turn s3a = s3b := by decide +kernel
def J3 (s : St3) : Prop := s = s3 ∨ s = s3a ∨ s = s3b
def m3 (s : St3) : Nat := 2 * s.2.1.length + (2 - s.1.length)
theorem w3 : WOk [0, 1, 0] J3 m3 := by
  refine ⟨.inl rfl, fun s h hne => ?_, fun s h => ?_, fun s h => ?_⟩
  · rcases h with rfl | rfl | rfl
    · rw [t3a]; exact ⟨.inr (.inl rfl), by decide⟩
    · rw [t3b]; exact ⟨.inr (.inr rfl), by decide⟩
    · exact absurd rfl hne
  · rcases h with rfl | rfl | rfl <;> decide
  · rcases h with rfl | rfl | rfl <;> decide
theorem back3 {s : St3} (h : J3 s) (he : s.2.1 = []) : Back s.1 [0, 1, 0] [1, 0, 1] [[1, 0, 1], [0, 1, 0]] := by
  rcases h with rfl | rfl | rfl
  · cases he
  · cases he
  · refine ⟨rfl, fun j a hj => ?_, fun j a b h1 h2 => ?_, by decide⟩
    · rcases j with _ | _ | j
      · cases hj; decide
      · cases hj; decide
      · simp at hj
    · rcases j with _ | j
      · cases h1; cases h2; decide +kernel
      · simp at h2
def s1 : St3 := ([([], none)], [[]], [])
def s1a : St3 := ([([], none)], [], [])
theorem t1a : turn s1 = s1a := by decide +kernel
def J1 (s : St3) : Prop := s = s1 ∨ s = s1a
theorem w1 : WOk [] J1 (fun s => s.2.1.length) := by
  refine ⟨.inl rfl, fun s h hne => ?_, fun s h => ?_, fun s h => ?_⟩
  · rcases h with rfl | rfl
    · rw [t1a]; exact ⟨.inr rfl, by decide⟩
    · exact absurd rfl hne
  · rcases h with rfl | rfl <;> decide
  · rcases h with rfl | rfl <;> decide
theorem back1 {s : St3} (h : J1 s) (he : s.2.1 = []) : Back s.1 [] [] [[]] := by
  rcases h with rfl | rfl
  · cases he
  · refine ⟨rfl, fun j a hj => ?_, fun j a b h1 h2 => ?_, by decide⟩
    · rcases j with _ | j
      · cases hj; decide
      · simp at hj
    · simp at h2
theorem moved4 : sortN ((mt [0, 1, 0, 2, 1, 0]).map (·.2)) = [[0, 1, 2, 0, 1, 0], [1, 0, 1, 2, 1, 0]] := by
  unfold sortN
  rw [show ((mt [0, 1, 0, 2, 1, 0]).map (·.2)).map toI = [[0, 1, 2, 0, 1, 0], [1, 0, 1, 2, 1, 0]] from by decide +kernel]
  exact List.mergeSort_of_pairwise (by decide +kernel)
end K75
set_option Elab.async false
set_option autoImplicit false
set_option linter.all false
set_option maxRecDepth 100000
set_option maxHeartbeats 4000000
namespace Bv
open PySem PySem.Spec PyProof.Rows L2
section
variable {X : Cx} {Γ : En} {a b : Expr} {pos : Pos} {Φ : Res → En → Prop}
theorem ev_and {rest : List Expr} (h : EV X a Γ fun r Γ1 => ∃ k, r = .dat (.bool k) ∧ (k = true → EV X (.BoolOp .And (b :: rest) pos) Γ1 Φ) ∧ (k = false → Φ (.dat (.bool false)) Γ1)) : EV X (.BoolOp .And (a :: b :: rest) pos) Γ Φ := by
  intro σ B H s Q q
  refine can_of (pe_and (pe_can (e := a)) (pe_can (e := .BoolOp .And (b :: rest) pos))) ?_
  refine h σ B H s _ fun v r Γ1 B1 H1 o1 g1 ⟨k, e, h1, h2⟩ => ?_
  subst e
  cases g1
  refine ⟨k, rfl, ?_⟩
  cases k with
  | true => exact h1 rfl σ B1 H1 o1.st Q fun v r Γ2 B2 H2 o2 g2 hφ => q v r Γ2 B2 H2 (o1.trans o2) (g2.back o1.step.dom) hφ
  | false => exact q (.bl false) (.dat (.bool false)) Γ1 B1 H1 o1 (Rp.bl _) (h2 rfl)
theorem sv_is {Γ Γ' : En} {F : List Nat} {body : List Stmt} {P : Po} (e : Γ = Γ') (h : SV X F body Γ' P) : SV X F body Γ P := e ▸ h
theorem ev_one {op} (h : EV X a Γ Φ) : EV X (.BoolOp op [a] pos) Γ Φ := fun σ B H s Q q => can_of (pe_one (pe_can (e := a))) (h σ B H s Q q)
theorem ev_ixw (h : EV X a Γ fun r1 Γ1 => ∃ ds i d, r1 = .dat (.list ds) ∧ BV X b Γ1 (.int i) ∧ L2.atI ds i = some d ∧ Φ (.dat d) Γ1) (hs : PlainIx b := by intro _ _; rfl) : EV X (.Subscript a b pos) Γ Φ := by
  intro σ B H s Q q
  refine can_of (pe_ix ix_list (pe_can (e := a)) (pe_can (e := b)) hs) ?_
  refine h σ B H s _ fun v1 r1 Γ1 B1 H1 o1 g1 ⟨ds, i, d, e1, hb, hd, hq⟩ => ?_
  subst e1
  refine hb σ B1 H1 o1.st _ fun v2 B2 H2 o2 g2 => ?_
  cases g2
  have g1' : Rp X.K B2 (.list ds) v1 := Rp.up g1 o2.ex
  cases g1' with
  | @lst l xs _ hl gl =>
    obtain ⟨v, hv, gv⟩ := gl.atI hd
    exact ⟨_, _, i, v, rfl, rfl, .of (o2.sub _ _ hl), hv, q v (.dat d) Γ1 B2 H2 (o1.trans (o2.out o1.st)) gv hq⟩
end
end Bv
/-! K22: _law_right. -/
namespace K75
open PySem PySem.Spec PyProof.Rows L2 Bv
section
variable {P : Program} {w : World} {K : PySem.W.Frag} {mg : Str → Option Value} {base : Heap} {k : Nat} {f : Addr} {fd : FuncData}
theorem row_l {n : Nat} (hn : n < 7) {r : List Nat} (h : isRow n r = true) : r.length ≤ 15 := by
  rw [row_len h]
  rcases (show n = 0 ∨ n = 1 ∨ n = 2 ∨ n = 3 ∨ n = 4 ∨ n = 5 ∨ n = 6 by omega) with e | e | e | e | e | e | e <;> subst e <;> decide
theorem row_small7 {n : Nat} (hn : n < 7) {r : List Nat} (h : isRow n r = true) : smallR r := by
  have h2 := below_lt (Bool.and_eq_true_iff.mp h).1
  exact ⟨by have := row_l hn h; omega, fun k hk => by have := h2 k hk; omega⟩
theorem row_B {n : Nat} (hn : n < 7) : n * (n - 1) / 2 ≤ 15 := by
  rcases (show n = 0 ∨ n = 1 ∨ n = 2 ∨ n = 3 ∨ n = 4 ∨ n = 5 ∨ n = 6 by omega) with e | e | e | e | e | e | e <;> subst e <;> decide
theorem due_plain (r : List Nat) (hr : r.length ≤ 15) : plainD 2 (.list ((sortN ((mt r).map (·.2))).map row)) := by
  refine .inr ⟨_, rfl, by rw [sorted_len]; have := mt_len r; omega, fun x hx => ?_⟩
  obtain ⟨l, rfl, b, hl⟩ := sorted_row hx
  refine .inr ⟨_, rfl, ?_, fun y hy => ?_⟩
  · rw [List.length_map]
    have := move_len hl
    simp only at this
    omega
  · obtain ⟨z, _, rfl⟩ := List.mem_map.mp hy
    exact .inl ⟨_, rfl⟩
theorem due_two {d : PyData} (h : plainD 2 d) : plainD 3 (.list [d, d]) := .inr ⟨_, rfl, Nat.le_of_ble_eq_true rfl, fun x hx => by
  have : x = d := by simpa using hx
  rw [this]; exact h⟩
def S_right : Sb := fun es Φ => ∃ (g : Nat) (p : List PyData), es = [.own p] ∧ Pur (g + 80) p ∧ ∀ p', Pur g p' → Φ (.dat (.bool true)) [.own p']
theorem ok_right (F : Fun K "_law_right" "_law_right" (top 41) f fd) (C_draw : Calls P w K mg base 2 "_law_draw" S_draw) (C_row : Calls P w K mg base 4 "_law_row" S_row) (C_lmoved : Calls P w K mg base 1 "_law_moved" S_lmoved) (C_moved_rows : Calls P w K mg base 6 "moved_rows" S_moved_rows) (CK_moved_rows : CallsK P w K mg base 6 "moved_rows" ["row", "many"] g2r S_moved_rows)
    (C_exact : Calls P w K mg base 4 "_law_exact" (S_exact 3)) (C_rr : CallsG P w K mg base 10 "_law_rows_right" S_rr) (C_walked : Calls P w K mg base 4 "_law_walked" S_walked) (m_sorted : mg "sorted" = none) (m_repr : mg "repr" = none) : FnG P w K mg base 11 f fd ["purse"] (toSp K S_right) := by
  refine fnG_ok [0] F sc41 (fun es Φ ⟨_, _, e, _⟩ => by subst e; rfl) (fun es Φ ⟨_, _, e, _⟩ => by subst e; exact own_of rfl) (fun cdv A outer s0 H E hgd0 hr es Φ ⟨g, p, e, hp, hΦ⟩ => ?_)
  subst e
  have hgd : (cxOf CX0 P w K mg base N41 "_law_right" (defScope (top 41)) f cdv A outer s0 H E).nox.A.guards = some [] := hgd0
  -- many
  refine sv_asgE (i := 1) sc41.nd rfl (.inl rfl) (by decide) (ev_add (BR.ev bv_int ⟨1, rfl, ev_own C_draw (hr.mono (by decide)) (by rfl) (eva_cons (BR.ev (br_o 0 rfl) (BA.eva (ba_cons bv_int ba_nil) ⟨fun i h => by cases h; trivial, (show ([0] : List Nat).Nodup from by decide), g + 79, p, 6, rfl, hp, by decide, by decide, fun m0 p1 hm0 hp1 => ⟨_, rfl, ?_⟩⟩)))⟩))
  obtain ⟨m, em, hm1, hm7⟩ : ∃ m : Nat, (1 : Int) + (m0 : Nat) = (m : Nat) ∧ 1 ≤ m ∧ m < 7 := ⟨m0 + 1, by omega, by omega, by omega⟩
  rw [em]
  have b6 := row_B hm7
  refine sv_is (Γ' := [.own p1, .dat (.int (m : Nat)), .no, .no, .no, .no, .no, .no, .no, .no, .no, .no]) rfl ?_
  -- row
  refine sv_asgE (i := 2) sc41.nd rfl (.inl rfl) (by decide) (ev_own C_row (hr.mono (by decide)) (by rfl) (eva_cons (BR.ev (br_o 0 rfl) (BA.eva (ba_cons (bv_v 1 rfl) ba_nil) ⟨fun i h => by cases h; trivial, (show ([0] : List Nat).Nodup from by decide), g + 79 - m * (m - 1) / 2, m * (m - 1) / 2, m, p1, JR m, rfl, hm1, by omega, by omega, hp1.less (by omega), r_ok hm7, fun u p2 hu hp2 => ?_⟩))))
  have ru := r_row hm7 hu
  have lu := row_l hm7 ru
  have hlm := lm_len u
  have hmt := mt_len u
  have C3 : S_lmoved ([nrow u].map .dat) fun r' _ => r' = .new ((lm u).map encL) := ⟨_, rfl, by omega, rfl⟩
  have C4 : S_moved_rows ([PyData.int (m : Nat), nrow u].map .dat) fun r' _ => r' = .new ((sortN ((mt u).map (·.2))).map row) := ⟨m, u, rfl, hm1, by omega, by omega, ru, rfl⟩
  have tu := tells_row (row_small7 hm7 ru)
  have dp := due_plain u lu
  have dp3 := due_two dp
  refine sv_is (Γ' := [.own p2, .dat (.int (m : Nat)), .dat (nrow u), .no, .no, .no, .no, .no, .no, .no, .no, .no]) rfl ?_
  -- due, noted
  refine sv_par (i := 3) (j := 4) rfl sc41.nd rfl rfl (by decide) rfl rfl ⟨by decide, by decide⟩ (BA.eva (ds := [.list ((sortN ((mt u).map (·.2))).map row), .str (nrow u).shown]) (ba_cons (br_give (BR.is (br_sortedR (rows := ((lm u).map fun q : Bool × List Nat => q.2).map toI) (hu3 hr) (by rfl) m_sorted (br_lc2 (L := lm u) (enc := encL) (sp1 := fun q => .int (if q.1 then 1 else 0)) (sp2 := fun q => nrow q.2) (f := fun q => nrow q.2) sc41.nd bk41_0 (pi_list pe_can) (gv_list (br_give (br_own C_lmoved (hr.mono (by decide)) (by rfl) (ba_cons (bv_v 2 rfl) ba_nil) C3))) (fun q _ Y hY => ?_) (by rw [sizeLine_eq]; omega) (fun q _ Y hY => ?_)) ?_ (by rw [List.length_map, List.length_map, sizeLine_eq]; omega)) (by show Res.new ((sortN ((lm u).map fun q => q.2)).map row) = _; rw [sort_moves]))) (ba_cons (bv_repr hgd (hu102 hr) (by rfl) m_repr (bv_v 2 rfl) tu) ba_nil)) ⟨_, _, rfl, ⟨rfl, rfl⟩, ?_⟩)
  · obtain ⟨_, _, _, _, _, rfl⟩ := hY
    exact bg_unl rfl (pgs2 (pg_name (i := 10) sc41.nd rfl (.inl rfl)) (pg_name (i := 11) sc41.nd rfl (.inl rfl))) rfl
  · obtain ⟨_, _, _, _, _, rfl⟩ := hY
    exact (bv_v 11 rfl)
  · show some _ = some _
    rw [List.map_map, List.map_map]
    congr 1
    apply List.map_congr_left
    intro q _
    exact (row_toI q.2).symm
  refine sv_is (Γ' := [.own p2, .dat (.int (m : Nat)), .dat (nrow u), .dat (.list ((sortN ((mt u).map (·.2))).map row)), .dat (.str (nrow u).shown), .no, .no, .no, .no, .no, .no, .no]) rfl ?_
  -- told
  refine sv_asg (i := 5) sc41.nd rfl (.inl rfl) (by decide) (br_own C_moved_rows (hr.mono (by decide)) (by rfl) (ba_cons (bv_v 1 rfl) (ba_cons (bv_v 2 rfl) ba_nil)) C4) ?_
  have D3 : S_exact 3 ([.list [.list ((sortN ((mt u).map (·.2))).map row), .list ((sortN ((mt u).map (·.2))).map row)], .list [.list ((sortN ((mt u).map (·.2))).map row), .list ((sortN ((mt u).map (·.2))).map row)]].map .dat) fun r' _ => r' = .dat (.bool true) := ⟨_, rfl, dp3, rfl⟩
  have D2 : S_exact 3 ([.list ((sortN ((mt u).map (·.2))).map row), .list ((sortN ((mt u).map (·.2))).map row)].map .dat) fun r' _ => r' = .dat (.bool true) := ⟨_, rfl, .inl dp, rfl⟩
  refine sv_when (k := false) (bt_frozen (i := 5) rfl (BT.is (d := false) (bw_t (bw_or (bt_not (bt_val (br_own C_exact (hr.mono (by decide)) (by rfl) (ba_cons (br_give (br_lst (ba_cons (bv_v 3 rfl) (ba_cons (bv_v 3 rfl) ba_nil)) (by first | exact Nat.le_of_ble_eq_true rfl | decide | assumption | (simp [sizeLine_eq]; omega)))) (ba_cons (br_give (br_lst (ba_cons (bv_v 5 rfl) (ba_cons (br_give (br_ownK CK_moved_rows (hr.mono (by decide)) (by rfl) (bk_cons (bv_v 2 rfl) (bk_cons (bv_v 1 rfl) bk_nil)) (fun B zs z => g2r_rp z) C4)) ba_nil)) (Nat.le_of_ble_eq_true rfl))) ba_nil)) D3))) (fun _ => bw_or1 (bt_neSame (bv_repr hgd (hu102 hr) (by rfl) m_repr (bv_v 2 rfl) tu) (bv_v 4 rfl))))) rfl)) (fun c => by cases c) (fun _ => ?_)
  -- told.append
  refine sv_expr (ev_append (i := 5) rfl (.inl rfl) rfl (BR.ev bv_str ⟨_, _, rfl, rfl, by rw [sorted_len, sizeLine_eq]; omega, ?_⟩))
  refine sv_is (Γ' := [.own p2, .dat (.int (m : Nat)), .dat (nrow u), .dat (.list ((sortN ((mt u).map (·.2))).map row)), .dat (.str (nrow u).shown), .own ((sortN ((mt u).map (·.2))).map row ++ [.str "more"]), .no, .no, .no, .no, .no, .no]) rfl ?_
  refine sv_when (k := false) (BT.is (bt_not (bt_val (br_own C_exact (hr.mono (by decide)) (by rfl) (ba_cons (bv_v 3 rfl) (ba_cons (br_give (br_own C_moved_rows (hr.mono (by decide)) (by rfl) (ba_cons (bv_v 1 rfl) (ba_cons (bv_v 2 rfl) ba_nil)) C4)) ba_nil)) D2))) rfl) (fun c => by cases c) (fun _ => ?_)
  -- few
  refine sv_asgE (i := 6) sc41.nd rfl (.inl rfl) (by decide) (ev_add (BR.ev bv_int ⟨1, rfl, ev_own C_draw (hr.mono (by decide)) (by rfl) (eva_cons (BR.ev (br_o 0 rfl) (BA.eva (ba_cons bv_int ba_nil) ⟨fun i h => by cases h; trivial, (show ([0] : List Nat).Nodup from by decide), g + 62, p2, 4, rfl, hp2.less (by omega), by decide, by decide, fun f0 p3 hf0 hp3 => ⟨_, rfl, ?_⟩⟩)))⟩))
  obtain ⟨q, eq, hq1, hq5⟩ : ∃ q : Nat, (1 : Int) + (f0 : Nat) = (q : Nat) ∧ 1 ≤ q ∧ q < 5 := ⟨f0 + 1, by omega, by omega, by omega⟩
  rw [eq]
  have bq := row_B (show q < 7 by omega)
  refine sv_is (Γ' := [.own p3, .dat (.int (m : Nat)), .dat (nrow u), .dat (.list ((sortN ((mt u).map (·.2))).map row)), .dat (.str (nrow u).shown), .own ((sortN ((mt u).map (·.2))).map row ++ [.str "more"]), .dat (.int (q : Nat)), .no, .no, .no, .no, .no]) rfl ?_
  -- one, other
  refine sv_par (i := 7) (j := 8) rfl sc41.nd rfl rfl (by decide) rfl rfl ⟨by decide, by decide⟩ (eva_cons (ev_own C_row (hr.mono (by decide)) (by rfl) (eva_cons (BR.ev (br_o 0 rfl) (BA.eva (ba_cons (bv_v 6 rfl) ba_nil) ⟨fun i h => by cases h; trivial, (show ([0] : List Nat).Nodup from by decide), g + 46, q * (q - 1) / 2, q, p3, JR q, rfl, hq1, by omega, by omega, hp3.less (by omega), r_ok (by omega), fun u1 p4 hu1 hp4 => ?_⟩)))))
  refine eva_cons (ev_own C_row (hr.mono (by decide)) (by rfl) (eva_cons (BR.ev (br_o 0 rfl) (BA.eva (ba_cons (bv_v 6 rfl) ba_nil) ⟨fun i h => by cases h; trivial, (show ([0] : List Nat).Nodup from by decide), g + 31, q * (q - 1) / 2, q, p4, JR q, rfl, hq1, by omega, by omega, hp4.less (by omega), r_ok (by omega), fun u2 p5 hu2 hp5 => ?_⟩))))
  refine eva_nil ⟨fun i h => (nomatch h), fun i h => (nomatch h), _, _, rfl, ⟨rfl, rfl⟩, ?_⟩
  have r1 := r_row (by omega) hu1
  have r2 := r_row (by omega) hu2
  refine sv_is (Γ' := [.own p5, .dat (.int (m : Nat)), .dat (nrow u), .dat (.list ((sortN ((mt u).map (·.2))).map row)), .dat (.str (nrow u).shown), .own ((sortN ((mt u).map (·.2))).map row ++ [.str "more"]), .dat (.int (q : Nat)), .dat (nrow u1), .dat (nrow u2), .no, .no, .no]) rfl ?_
  -- five
  refine sv_asgE (i := 9) sc41.nd rfl (.inl rfl) (by decide) (ev_own C_row (hr.mono (by decide)) (by rfl) (eva_cons (BR.ev (br_o 0 rfl) (BA.eva (ba_cons bv_int ba_nil) ⟨fun i h => by cases h; trivial, (show ([0] : List Nat).Nodup from by decide), g + 21, 10, 5, p5, JR 5, rfl, by decide, by decide, by decide, hp5.less (by omega), r_ok (by decide), fun u5 p6 hu5 hp6 => ?_⟩))))
  have r5 := r_row (by decide) hu5
  have s1 := row_small7 (show q < 7 by omega) r1
  have s2 := row_small7 (show q < 7 by omega) r2
  have s5 := row_small7 (show 5 < 7 by decide) r5
  have l1 := row_l (show q < 7 by omega) r1
  have l2 := row_l (show q < 7 by omega) r2
  have l5 := row_l (show 5 < 7 by decide) r5
  refine sv_is (Γ' := [.own p6, .dat (.int (m : Nat)), .dat (nrow u), .dat (.list ((sortN ((mt u).map (·.2))).map row)), .dat (.str (nrow u).shown), .own ((sortN ((mt u).map (·.2))).map row ++ [.str "more"]), .dat (.int (q : Nat)), .dat (nrow u1), .dat (nrow u2), .dat (nrow u5), .no, .no]) rfl ?_
  -- the end
  refine sv_ret (ev_and (ev_ownG C_rr (hr.mono (by decide)) hgd (by rfl) (eva_cons (BR.ev (br_o 0 rfl) (BA.eva (ba_cons (bv_v 6 rfl) (ba_cons (bv_v 7 rfl) (ba_cons (bv_v 8 rfl) ba_nil))) ⟨fun i h => by cases h; trivial, (show ([0] : List Nat).Nodup from by decide), g + 13, q, p6, u1, u2, rfl, hq1, by omega, hp6.less (by omega), s1, s2, ⟨by omega, by omega⟩, r1, r2, right_few hq5 r1 r2, fun p7 hp7 => ⟨true, rfl, fun _ => ?_, fun c => by cases c⟩⟩)))))
  refine ev_one (ev_ownG C_rr (hr.mono (by decide)) hgd (by rfl) (eva_cons (BR.ev (br_o 0 rfl) ?_)))
  refine eva_cons (BR.ev bv_int (eva_cons (BR.ev (bv_v 9 rfl) (eva_cons ?_))))
  refine ev_ixw (ev_own C_walked (hr.mono (by decide)) (by rfl) (eva_cons (BR.ev (br_o 0 rfl) (eva_cons (BR.ev (bv_v 9 rfl) (eva_cons (ev_add (BR.ev bv_int ⟨1, rfl, ev_own C_draw (hr.mono (by decide)) (by rfl) (eva_cons (BR.ev (br_o 0 rfl) (BA.eva (ba_cons bv_int ba_nil) ⟨fun i h => by cases h; trivial, (show ([0] : List Nat).Nodup from by decide), g + 12, p7, 4, rfl, hp7, by decide, by decide, fun w0 p8 hw0 hp8 => ⟨_, rfl, ?_⟩⟩)))⟩))))))))
  obtain ⟨v, ev, hv5⟩ : ∃ v : Nat, (1 : Int) + (w0 : Nat) = (v : Nat) ∧ v < 5 := ⟨w0 + 1, by omega, by omega⟩
  rw [ev]
  refine eva_nil ⟨fun i h => (nomatch h), fun i h => (nomatch h), fun i h => by cases h; trivial, (show ([0] : List Nat).Nodup from by decide), g + 8, v, u5, p8, rfl, by omega, by omega, hp8.less (by omega), fun Wk p9 hW hWl hp9 => ?_⟩
  obtain ⟨wl, hwl⟩ : ∃ wl, Wk.getLast? = some wl := by
    cases h : Wk.getLast? with
    | none => rw [List.getLast?_eq_none_iff.mp h] at hW; cases hW.1
    | some x => exact ⟨x, rfl⟩
  have gw : L2.atI (Wk.map nrow) (-1) = some (nrow wl) := by
    obtain ⟨ys, e⟩ := List.getLast?_eq_some_iff.mp hwl
    rw [e, List.map_append]
    exact atI_last _ _
  have hwm : wl ∈ Wk := List.mem_of_getLast? hwl
  have rwl := walk_rows 5 u5 Wk hW r5 wl hwm
  have swl := row_small7 (show 5 < 7 by decide) rwl
  have lwl := row_l (show 5 < 7 by decide) rwl
  refine ⟨_, -1, nrow wl, rfl, bv_tC pe_usub1, gw, ?_⟩
  exact eva_nil ⟨fun i h => (nomatch h), fun i h => (nomatch h), fun i h => (nomatch h), fun i h => by cases h; trivial, (show ([0] : List Nat).Nodup from by decide), g, 5, p9, u5, wl, rfl, by decide, by decide, hp9.less (by omega), s5, swl, ⟨by omega, by omega⟩, r5, rwl, right_walk (by decide) r5 hW hwm, fun p10 hp10 => ⟨_, rfl, hΦ p10 hp10⟩⟩
end
end K75
set_option Elab.async false
set_option autoImplicit false
set_option linter.all false
set_option maxRecDepth 100000
set_option maxHeartbeats 4000000
/-! K23: law. -/
namespace K75
open PySem PySem.Spec PyProof.Rows L2 Bv
theorem bv_nats {X : Cx} {Γ : En} {es : List Expr} {pos : Pos} (r : List Nat) (h : intsE es = some (toI r)) (hl : r.length ≤ sizeLine) : BV X (.List es pos) Γ (nrow r) := by
  have e : nrow r = .list ((toI r).map .int) := by
    unfold toI
    rw [List.map_map]
    rfl
  rw [e]
  exact br_give (br_lst (ba_intsE h) (by unfold toI; rw [List.length_map, List.length_map]; exact hl))
theorem ba_i {X : Cx} {Γ : En} {i : Int} {j} {p : Pos} {es : List Expr} {ds : List PyData} (t : BA X es Γ ds) : BA X (.Constant (.int i) j p :: es) Γ (.int i :: ds) := ba_c bv_int t
theorem ba_n {X : Cx} {Γ : En} {es rest : List Expr} {ds : List PyData} {pos : Pos} (r : List Nat) (h : intsE es = some (toI r)) (hl : r.length ≤ sizeLine) (t : BA X rest Γ ds) : BA X (.List es pos :: rest) Γ (nrow r :: ds) := ba_c (bv_nats r h hl) t
section
variable {P : Program} {w : World} {K : PySem.W.Frag} {mg : Str → Option Value} {base : Heap} {k : Nat} {f fp : Addr} {fd fdp : FuncData}
def S_law : Sb := fun es Φ => ∃ ns : List Int, es = [.scr ns] ∧ ns.length < 2 ^ 24 ∧ Φ (.dat (.bool true)) es
/-- what the written examples tell -/
def toldD : PyData := .list [.list [nrow [0, 1, 2, 0, 1, 0], nrow [1, 0, 1, 2, 1, 0]], .list [nrow [0, 1, 0], nrow [1, 0, 1]], .list [nrow []], .bool true]
theorem row_plain (r : List Nat) (h : r.length ≤ 100) : plainD 1 (nrow r) := .inr ⟨_, rfl, by rw [List.length_map]; omega, fun y hy => by
  obtain ⟨z, _, rfl⟩ := List.mem_map.mp hy
  exact .inl ⟨_, rfl⟩⟩
theorem toldD_plain : plainD 3 toldD := by
  refine .inr ⟨_, rfl, Nat.le_of_ble_eq_true rfl, fun x hx => ?_⟩
  have two : ∀ L : List (List Nat), L.length ≤ 100 → (∀ r ∈ L, r.length ≤ 100) → plainD 2 (.list (L.map nrow)) := fun L h1 h2 => .inr ⟨_, rfl, by rw [List.length_map]; omega, fun y hy => by
    obtain ⟨z, hz, rfl⟩ := List.mem_map.mp hy
    exact row_plain z (h2 z hz)⟩
  rcases List.mem_cons.mp hx with rfl | hx
  · exact two [[0, 1, 2, 0, 1, 0], [1, 0, 1, 2, 1, 0]] (by decide) (by decide)
  rcases List.mem_cons.mp hx with rfl | hx
  · exact two [[0, 1, 0], [1, 0, 1]] (by decide) (by decide)
  rcases List.mem_cons.mp hx with rfl | hx
  · exact two [[]] (by decide) (by decide)
  rw [List.mem_singleton.mp hx]
  exact .inl (.inl (.inr ⟨true, rfl⟩))
theorem ok_law (F : Fun K "law" "law" (top 42) f fd) (FP : FnOk P w K mg base CX0 2 fp fdp ["script", "few"] (rawP K)) (gP : mg "_law_purses" = some (.ref fp)) (kP : PySem.W.keepIn K (.ref fp) = true) (bP : Binds K fdp ["script", "few"] []) (C_right : CallsG P w K mg base 11 "_law_right" S_right)
    (C_row_of_moves : Calls P w K mg base 7 "row_of_moves" S_rom) (C_moved_rows : Calls P w K mg base 6 "moved_rows" S_moved_rows) (C__law_cost : Calls P w K mg base 2 "_law_cost" S_cost) (C__law_exact : Calls P w K mg base 4 "_law_exact" (S_exact 3)) : FnG P w K mg base 12 f fd ["script"] (toSp K S_law) := by
  refine fnG_ok [] F sc42 (fun es Φ ⟨_, e, _⟩ => by subst e; rfl) (fun es Φ ⟨_, e, _⟩ => by subst e; exact own_of rfl) (fun cdv A outer s0 H E hgd0 hr es Φ ⟨ns, e, hl, hΦ⟩ => ?_)
  subst e
  have hgd : (cxOf CX0 P w K mg base N42 "law" (defScope (top 42)) f cdv A outer s0 H E).nox.A.guards = some [] := hgd0
  refine sv_is (Γ' := [.scr ns, .no, .no, .no]) rfl ?_
  refine sv_forFresh (i := 1) CondP (fun _ Γ1 => ∃ t1, Γ1 = [.scr ns, t1, .no, .no]) PassesOwn.never (pg_name sc42.nd rfl (.inl rfl)) List.not_mem_nil (fun σ B H s Q q => ?_) ⟨_, rfl⟩ ?_ ?_
  · refine can_of (pe_call FP (hr.mono (by decide)) (by rfl) gP kP bP .nil pass0 (pa_cons (pv 0) (pa_cons pe_int pa_nil))) ?_
    obtain ⟨ov, e1, l, e2, sq⟩ := s.ent 0 _ rfl
    refine ⟨.ref l, by rw [e1, e2], ?_⟩
    show rawP K ([.ref l, .int 2] ++ []) H Q E0
    exact ⟨B, ns, l, rfl, sq, s.sub, hl, q⟩
  · rintro pss hpss k0 ps Γ1 hps ⟨t1, rfl⟩
    have hp := hpss ps (List.mem_of_getElem? hps)
    refine sv_is (Γ' := [.scr ns, .own ps, .no, .no]) rfl ?_
    refine sv_whenE (et_not (et_val (ev_ownG C_right (hr.mono (by decide)) hgd (by rfl) (eva_c (BR.ev (br_o 1 rfl) (eva_nil ⟨fun i h => by cases h; trivial, (show ([1] : List Nat).Nodup from by decide), 2 ^ 40 - 80, ps, rfl, hp.less (by decide), fun p' hp' => ⟨true, rfl, ?_⟩⟩))))))
    exact ⟨fun c => (by cases c), fun _ => sv_nil ⟨.own p', rfl⟩⟩
  · rintro _ Γ1 ⟨t1, rfl⟩
    refine sv_asgE (i := 2) sc42.nd rfl (.inl rfl) List.not_mem_nil ?_
    refine ev_own C_row_of_moves (hr.mono (by decide)) (by rfl) ?_
    refine BA.eva (ds := [.int 5, nrow far1, nrow far2]) ?_ ?_
    · refine ba_i ?_
      refine ba_n far1 ?_ ?_ ?_
      · rfl
      · exact Nat.le_of_ble_eq_true rfl
      refine ba_n far2 ?_ ?_ ?_
      · rfl
      · exact Nat.le_of_ble_eq_true rfl
      exact ba_nil
    refine ⟨(show ([] : List Nat).Nodup from List.nodup_nil), ?_⟩
    refine ⟨5, far1, far2, _, _, rfl, ⟨by decide, by decide, by decide, by decide, far_row1, far_row2⟩, w_all (by decide) far_row1, fun s hJ he => ?_⟩
    obtain ⟨L, hB, hT⟩ := far_ok hJ he
    refine ⟨L, hB, ?_⟩
    refine sv_is (Γ' := [.scr ns, t1, .own (L.reverse.map nrow), .no]) rfl ?_
    refine sv_freeze (i := 2) rfl ?_
    refine sv_is (Γ' := [.scr ns, t1, .dat (.list (L.reverse.map nrow)), .no]) rfl ?_
    have st : steps L.reverse = true := by
      have h := hT.path
      unfold pathOk at h
      have e : (L.reverse.map some).filterMap id = L.reverse := by simp
      rw [e] at h
      simp only [Bool.and_eq_true] at h
      exact h.2
    have D1 : S_moved_rows ([PyData.int 4, nrow [0, 1, 0, 2, 1, 0]].map .dat) fun r' _ => r' = .new [nrow [0, 1, 2, 0, 1, 0], nrow [1, 0, 1, 2, 1, 0]] := ⟨4, [0, 1, 0, 2, 1, 0], rfl, by decide, by decide, by decide, by decide +kernel, by rw [moved4]; rfl⟩
    have D2 : S_rom ([PyData.int 3, nrow [0, 1, 0], nrow [1, 0, 1]].map .dat) fun r' _ => r' = .new [nrow [0, 1, 0], nrow [1, 0, 1]] := ⟨3, _, _, J3, m3, rfl, ⟨by decide, by decide, by decide, by decide, by decide +kernel, by decide +kernel⟩, w3, fun s h e => ⟨_, back3 h e, rfl⟩⟩
    have D3 : S_rom ([PyData.int 1, nrow [], nrow []].map .dat) fun r' _ => r' = .new [nrow []] := ⟨1, _, _, J1, _, rfl, ⟨by decide, by decide, by decide, by decide, by decide +kernel, by decide +kernel⟩, w1, fun s h e => ⟨_, back1 h e, rfl⟩⟩
    have D4 : S_cost ([.list (L.reverse.map nrow)].map .dat) fun r' _ => r' = .dat (.int 10) := ⟨_, rfl, hT.pos, by have := hT.size; omega, fun r hr' => by have := (hT.small r hr').1; omega, st, by rw [hT.cost]; rfl⟩
    have D5 : S_exact 3 ([toldD, toldD].map .dat) fun r' _ => r' = .dat (.bool true) := ⟨_, rfl, toldD_plain, rfl⟩
    refine sv_asg (i := 3) (r := .new [.list [nrow [0, 1, 2, 0, 1, 0], nrow [1, 0, 1, 2, 1, 0]], .list [nrow [0, 1, 0], nrow [1, 0, 1]], .list [nrow []], .bool true]) sc42.nd rfl (.inl rfl) List.not_mem_nil ?_ ?_
    · refine br_lst ?_ (Nat.le_of_ble_eq_true rfl)
      refine ba_c ?_ ?_
      · refine br_give ?_
        refine br_own (ds := [.int 4, nrow [0, 1, 0, 2, 1, 0]]) C_moved_rows (hr.mono (by decide)) (by rfl) ?_ D1
        refine ba_i ?_
        refine ba_n [0, 1, 0, 2, 1, 0] ?_ ?_ ?_
        · rfl
        · exact Nat.le_of_ble_eq_true rfl
        exact ba_nil
      refine ba_c ?_ ?_
      · refine br_give ?_
        refine br_own (ds := [.int 3, nrow [0, 1, 0], nrow [1, 0, 1]]) C_row_of_moves (hr.mono (by decide)) (by rfl) ?_ D2
        refine ba_i ?_
        refine ba_n [0, 1, 0] ?_ ?_ ?_
        · rfl
        · exact Nat.le_of_ble_eq_true rfl
        refine ba_n [1, 0, 1] ?_ ?_ ?_
        · rfl
        · exact Nat.le_of_ble_eq_true rfl
        exact ba_nil
      refine ba_c ?_ ?_
      · refine br_give ?_
        refine br_own (ds := [.int 1, nrow [], nrow []]) C_row_of_moves (hr.mono (by decide)) (by rfl) ?_ D3
        refine ba_i ?_
        refine ba_n [] ?_ ?_ ?_
        · rfl
        · exact Nat.le_of_ble_eq_true rfl
        refine ba_n [] ?_ ?_ ?_
        · rfl
        · exact Nat.le_of_ble_eq_true rfl
        exact ba_nil
      refine ba_c ?_ ?_
      · exact BR.is (bv_eq hr (br_own C__law_cost (hr.mono (by decide)) (by rfl) (ba_cons (bv_v 2 rfl) ba_nil) D4) bv_int rfl rfl rfl rfl) rfl
      exact ba_nil
    refine sv_freeze (i := 3) rfl ?_
    refine sv_is (Γ' := [.scr ns, t1, .dat (.list (L.reverse.map nrow)), .dat toldD]) rfl ?_
    refine sv_ret ?_
    refine BR.ev (r := .dat (.bool true)) ?_ ⟨_, rfl, hΦ⟩
    refine br_own (ds := [toldD, toldD]) C__law_exact (hr.mono (by decide)) (by rfl) ?_ D5
    refine ba_c ?_ ?_
    · unfold toldD
      refine br_give ?_
      refine br_lst ?_ ?hl
      case hl => exact Nat.le_of_ble_eq_true rfl
      refine ba_c ?_ ?_
      · refine br_give ?_
        refine br_lst ?_ ?hl
        case hl => exact Nat.le_of_ble_eq_true rfl
        refine ba_n [0, 1, 2, 0, 1, 0] ?_ ?_ ?_
        · rfl
        · exact Nat.le_of_ble_eq_true rfl
        refine ba_n [1, 0, 1, 2, 1, 0] ?_ ?_ ?_
        · rfl
        · exact Nat.le_of_ble_eq_true rfl
        exact ba_nil
      refine ba_c ?_ ?_
      · refine br_give ?_
        refine br_lst ?_ ?hl
        case hl => exact Nat.le_of_ble_eq_true rfl
        refine ba_n [0, 1, 0] ?_ ?_ ?_
        · rfl
        · exact Nat.le_of_ble_eq_true rfl
        refine ba_n [1, 0, 1] ?_ ?_ ?_
        · rfl
        · exact Nat.le_of_ble_eq_true rfl
        exact ba_nil
      refine ba_c ?_ ?_
      · refine br_give ?_
        refine br_lst ?_ ?hl
        case hl => exact Nat.le_of_ble_eq_true rfl
        refine ba_n [] ?_ ?_ ?_
        · rfl
        · exact Nat.le_of_ble_eq_true rfl
        exact ba_nil
      refine ba_c ?_ ?_
      · exact bv_bl
      exact ba_nil
    refine ba_c ?_ ba_nil
    exact bv_v 3 rfl
end
end K75
set_option Elab.async false
set_option autoImplicit false
set_option linter.all false
set_option maxRecDepth 100000
set_option maxHeartbeats 4000000
/-! H75: the defs behind the top, by their names. Printed by gen/head75.py. -/
namespace K75
open PySem PySem.Spec PyProof.Rows L2 Bv
def dd (x : Str) (i : Nat) : He.DefD := ⟨(x, none), x, x, defArgs (top i), defBody (top i), defScope (top i), [], []⟩
def fn : List He.DefD := [dd "is_whole" 1, { dd "is_count" 2 with dfl := [.int 0] }, dd "check_many" 11, dd "are_counts_below" 12, dd "exchanged" 13, dd "is_row_there" 14, dd "check_row" 15, dd "moved_there" 16, dd "moved_rows" 17, dd "check_rows" 18, dd "ways_from" 19, dd "begun" 20, dd "row_of_moves" 21, dd "check_few" 22, dd "is_row_of_moves" 23, dd "_law_purse" 25, dd "_law_mixed" 26, dd "_law_draw" 27, dd "_law_purses" 28, dd "_law_one_of" 29, dd "_law_exact" 30, dd "_law_exchanged" 31, dd "_law_is_row" 32, dd "_law_row" 33, dd "_law_moved" 34, dd "_law_is_moves" 35, dd "_law_cost" 36, dd "_law_fewest" 37, dd "_law_around" 38, dd "_law_walked" 39, dd "_law_rows_right" 40, dd "_law_right" 41, dd "law" 42]
def fa : List He.Fa := [.glo "is_whole", .glo "is_count", .glo "check_many", .glo "are_counts_below", .glo "exchanged", .glo "is_row_there", .glo "check_row", .glo "moved_there", .glo "moved_rows", .glo "check_rows", .glo "ways_from", .glo "begun", .glo "row_of_moves", .glo "check_few", .glo "is_row_of_moves", .glo "_law_purse", .glo "_law_mixed", .glo "_law_draw", .glo "_law_purses", .glo "_law_one_of", .glo "_law_exact", .glo "_law_exchanged", .glo "_law_is_row", .glo "_law_row", .glo "_law_moved", .glo "_law_is_moves", .glo "_law_cost", .glo "_law_fewest", .glo "_law_around", .glo "_law_walked", .glo "_law_rows_right", .glo "_law_right", .glo "law", .free "abs", .free "all", .free "bool", .free "dict", .free "int", .free "isinstance", .free "len", .free "list", .free "max", .free "min", .free "range", .free "repr", .free "sorted", .free "str", .free "sum", .free "tuple", .free "zip", .int "MOST" 5]
theorem fun_of {K : PySem.W.Frag} {x q : Str} {st : Stmt} {f : Addr} {fd : FuncData} (F : FunD K x q (defArgs st) (defBody st) (defScope st) [] [] f fd) : Fun K x q st f fd := by
  obtain ⟨oc, od, dV, kV, doc, pm, an, cdv, ct, osl, e, lk, hcd, hD, _⟩ := F.ex
  rcases hD with ⟨_, rfl⟩ | ⟨z, _⟩
  · exact ⟨⟨oc, od, kV, doc, pm, an, cdv, ct, osl, e, lk, hcd⟩, F.kp⟩
  · exact absurd rfl z
theorem kb_of {K : PySem.W.Frag} {x q : Str} {st : Stmt} {f : Addr} {fd : FuncData} {ps ks : List Str} {g : List Value → List Value → List Value} {gV : List V → List V → List V} (F : Fun K x q st f fd)
    (h : ∀ (kV doc pm : Value) (an : Option Addr) (cdv ct : Value) (us ws : List Value), (g us ws).length = ps.length → bindArgs (PySem.W.fnOf x q (defArgs st) (defBody st) (defScope st) .none kV doc pm an cdv ct) ⟨us, ks.zip ws⟩ = pure (ps.zip (g us ws)))
    (hr : ∀ {vs : List V} {us : List Value} {zs : List V} {ws : List Value}, Vals vs us → Vals zs ws → Vals (gV vs zs) (g us ws)) : KBinds K fd ps ks g gV := by
  obtain ⟨oc, od, kV, doc, pm, an, cdv, ct, osl, rfl, lk, hcd⟩ := F.ex
  exact ⟨fun s us ws _ hl => .of_eq (h kV doc pm an cdv ct us ws hl), hr⟩
theorem facts {P : Program} {w : World} {K : PySem.W.Frag} {h : Heap} {mg : Str → Option Value} {f : Addr} (X : K.In h) (G : h.Ns mainGlobals mg) (hfa : mg ("law" : Str) = some (.ref f)) (c : He.SaysD fa fn K) :
    ∃ fd : FuncData, (∀ (s : Shared) (v : Value), BindsTo s fd ⟨[v], []⟩ [("script", v)]) ∧ ∀ base : Heap, K.In base → base.Ns mainGlobals mg → FnG P w K mg base 12 f fd ["script"] (toSp K S_law) := by
  obtain ⟨d1, D1⟩ := c.def_ 0 rfl
  have F1 : Fun K "is_whole" "is_whole" (top 1) (He.ga K "is_whole") d1 := fun_of D1
  have g1 := He.glo_ok X G (c.fact 0 (f := .glo "is_whole") rfl)
  obtain ⟨d2, D2⟩ := c.def_ 1 rfl
  have g2 := He.glo_ok X G (c.fact 1 (f := .glo "is_count") rfl)
  obtain ⟨d11, D11⟩ := c.def_ 2 rfl
  have F11 : Fun K "check_many" "check_many" (top 11) (He.ga K "check_many") d11 := fun_of D11
  have g11 := He.glo_ok X G (c.fact 2 (f := .glo "check_many") rfl)
  obtain ⟨d12, D12⟩ := c.def_ 3 rfl
  have F12 : Fun K "are_counts_below" "are_counts_below" (top 12) (He.ga K "are_counts_below") d12 := fun_of D12
  have g12 := He.glo_ok X G (c.fact 3 (f := .glo "are_counts_below") rfl)
  obtain ⟨d13, D13⟩ := c.def_ 4 rfl
  have F13 : Fun K "exchanged" "exchanged" (top 13) (He.ga K "exchanged") d13 := fun_of D13
  have g13 := He.glo_ok X G (c.fact 4 (f := .glo "exchanged") rfl)
  obtain ⟨d14, D14⟩ := c.def_ 5 rfl
  have F14 : Fun K "is_row_there" "is_row_there" (top 14) (He.ga K "is_row_there") d14 := fun_of D14
  have g14 := He.glo_ok X G (c.fact 5 (f := .glo "is_row_there") rfl)
  obtain ⟨d15, D15⟩ := c.def_ 6 rfl
  have F15 : Fun K "check_row" "check_row" (top 15) (He.ga K "check_row") d15 := fun_of D15
  have g15 := He.glo_ok X G (c.fact 6 (f := .glo "check_row") rfl)
  obtain ⟨d16, D16⟩ := c.def_ 7 rfl
  have F16 : Fun K "moved_there" "moved_there" (top 16) (He.ga K "moved_there") d16 := fun_of D16
  have g16 := He.glo_ok X G (c.fact 7 (f := .glo "moved_there") rfl)
  obtain ⟨d17, D17⟩ := c.def_ 8 rfl
  have F17 : Fun K "moved_rows" "moved_rows" (top 17) (He.ga K "moved_rows") d17 := fun_of D17
  have g17 := He.glo_ok X G (c.fact 8 (f := .glo "moved_rows") rfl)
  obtain ⟨d18, D18⟩ := c.def_ 9 rfl
  have F18 : Fun K "check_rows" "check_rows" (top 18) (He.ga K "check_rows") d18 := fun_of D18
  have g18 := He.glo_ok X G (c.fact 9 (f := .glo "check_rows") rfl)
  obtain ⟨d19, D19⟩ := c.def_ 10 rfl
  have F19 : Fun K "ways_from" "ways_from" (top 19) (He.ga K "ways_from") d19 := fun_of D19
  have g19 := He.glo_ok X G (c.fact 10 (f := .glo "ways_from") rfl)
  obtain ⟨d20, D20⟩ := c.def_ 11 rfl
  have F20 : Fun K "begun" "begun" (top 20) (He.ga K "begun") d20 := fun_of D20
  have g20 := He.glo_ok X G (c.fact 11 (f := .glo "begun") rfl)
  obtain ⟨d21, D21⟩ := c.def_ 12 rfl
  have F21 : Fun K "row_of_moves" "row_of_moves" (top 21) (He.ga K "row_of_moves") d21 := fun_of D21
  have g21 := He.glo_ok X G (c.fact 12 (f := .glo "row_of_moves") rfl)
  obtain ⟨d22, D22⟩ := c.def_ 13 rfl
  have F22 : Fun K "check_few" "check_few" (top 22) (He.ga K "check_few") d22 := fun_of D22
  have g22 := He.glo_ok X G (c.fact 13 (f := .glo "check_few") rfl)
  obtain ⟨d23, D23⟩ := c.def_ 14 rfl
  have F23 : Fun K "is_row_of_moves" "is_row_of_moves" (top 23) (He.ga K "is_row_of_moves") d23 := fun_of D23
  have g23 := He.glo_ok X G (c.fact 14 (f := .glo "is_row_of_moves") rfl)
  obtain ⟨d25, D25⟩ := c.def_ 15 rfl
  have F25 : Fun K "_law_purse" "_law_purse" (top 25) (He.ga K "_law_purse") d25 := fun_of D25
  have g25 := He.glo_ok X G (c.fact 15 (f := .glo "_law_purse") rfl)
  obtain ⟨d26, D26⟩ := c.def_ 16 rfl
  have F26 : Fun K "_law_mixed" "_law_mixed" (top 26) (He.ga K "_law_mixed") d26 := fun_of D26
  have g26 := He.glo_ok X G (c.fact 16 (f := .glo "_law_mixed") rfl)
  obtain ⟨d27, D27⟩ := c.def_ 17 rfl
  have F27 : Fun K "_law_draw" "_law_draw" (top 27) (He.ga K "_law_draw") d27 := fun_of D27
  have g27 := He.glo_ok X G (c.fact 17 (f := .glo "_law_draw") rfl)
  obtain ⟨d28, D28⟩ := c.def_ 18 rfl
  have F28 : Fun K "_law_purses" "_law_purses" (top 28) (He.ga K "_law_purses") d28 := fun_of D28
  have g28 := He.glo_ok X G (c.fact 18 (f := .glo "_law_purses") rfl)
  obtain ⟨d29, D29⟩ := c.def_ 19 rfl
  have F29 : Fun K "_law_one_of" "_law_one_of" (top 29) (He.ga K "_law_one_of") d29 := fun_of D29
  have g29 := He.glo_ok X G (c.fact 19 (f := .glo "_law_one_of") rfl)
  obtain ⟨d30, D30⟩ := c.def_ 20 rfl
  have F30 : Fun K "_law_exact" "_law_exact" (top 30) (He.ga K "_law_exact") d30 := fun_of D30
  have g30 := He.glo_ok X G (c.fact 20 (f := .glo "_law_exact") rfl)
  obtain ⟨d31, D31⟩ := c.def_ 21 rfl
  have F31 : Fun K "_law_exchanged" "_law_exchanged" (top 31) (He.ga K "_law_exchanged") d31 := fun_of D31
  have g31 := He.glo_ok X G (c.fact 21 (f := .glo "_law_exchanged") rfl)
  obtain ⟨d32, D32⟩ := c.def_ 22 rfl
  have F32 : Fun K "_law_is_row" "_law_is_row" (top 32) (He.ga K "_law_is_row") d32 := fun_of D32
  have g32 := He.glo_ok X G (c.fact 22 (f := .glo "_law_is_row") rfl)
  obtain ⟨d33, D33⟩ := c.def_ 23 rfl
  have F33 : Fun K "_law_row" "_law_row" (top 33) (He.ga K "_law_row") d33 := fun_of D33
  have g33 := He.glo_ok X G (c.fact 23 (f := .glo "_law_row") rfl)
  obtain ⟨d34, D34⟩ := c.def_ 24 rfl
  have F34 : Fun K "_law_moved" "_law_moved" (top 34) (He.ga K "_law_moved") d34 := fun_of D34
  have g34 := He.glo_ok X G (c.fact 24 (f := .glo "_law_moved") rfl)
  obtain ⟨d35, D35⟩ := c.def_ 25 rfl
  have F35 : Fun K "_law_is_moves" "_law_is_moves" (top 35) (He.ga K "_law_is_moves") d35 := fun_of D35
  have g35 := He.glo_ok X G (c.fact 25 (f := .glo "_law_is_moves") rfl)
  obtain ⟨d36, D36⟩ := c.def_ 26 rfl
  have F36 : Fun K "_law_cost" "_law_cost" (top 36) (He.ga K "_law_cost") d36 := fun_of D36
  have g36 := He.glo_ok X G (c.fact 26 (f := .glo "_law_cost") rfl)
  obtain ⟨d37, D37⟩ := c.def_ 27 rfl
  have F37 : Fun K "_law_fewest" "_law_fewest" (top 37) (He.ga K "_law_fewest") d37 := fun_of D37
  have g37 := He.glo_ok X G (c.fact 27 (f := .glo "_law_fewest") rfl)
  obtain ⟨d38, D38⟩ := c.def_ 28 rfl
  have F38 : Fun K "_law_around" "_law_around" (top 38) (He.ga K "_law_around") d38 := fun_of D38
  have g38 := He.glo_ok X G (c.fact 28 (f := .glo "_law_around") rfl)
  obtain ⟨d39, D39⟩ := c.def_ 29 rfl
  have F39 : Fun K "_law_walked" "_law_walked" (top 39) (He.ga K "_law_walked") d39 := fun_of D39
  have g39 := He.glo_ok X G (c.fact 29 (f := .glo "_law_walked") rfl)
  obtain ⟨d40, D40⟩ := c.def_ 30 rfl
  have F40 : Fun K "_law_rows_right" "_law_rows_right" (top 40) (He.ga K "_law_rows_right") d40 := fun_of D40
  have g40 := He.glo_ok X G (c.fact 30 (f := .glo "_law_rows_right") rfl)
  obtain ⟨d41, D41⟩ := c.def_ 31 rfl
  have F41 : Fun K "_law_right" "_law_right" (top 41) (He.ga K "_law_right") d41 := fun_of D41
  have g41 := He.glo_ok X G (c.fact 31 (f := .glo "_law_right") rfl)
  obtain ⟨d42, D42⟩ := c.def_ 32 rfl
  have F42 : Fun K "law" "law" (top 42) (He.ga K "law") d42 := fun_of D42
  have g42 := He.glo_ok X G (c.fact 32 (f := .glo "law") rfl)
  have m_abs := He.free_ok X G (c.fact 33 (f := .free "abs") rfl)
  have m_all := He.free_ok X G (c.fact 34 (f := .free "all") rfl)
  have m_bool := He.free_ok X G (c.fact 35 (f := .free "bool") rfl)
  have m_dict := He.free_ok X G (c.fact 36 (f := .free "dict") rfl)
  have m_int := He.free_ok X G (c.fact 37 (f := .free "int") rfl)
  have m_isinstance := He.free_ok X G (c.fact 38 (f := .free "isinstance") rfl)
  have m_len := He.free_ok X G (c.fact 39 (f := .free "len") rfl)
  have m_list := He.free_ok X G (c.fact 40 (f := .free "list") rfl)
  have m_max := He.free_ok X G (c.fact 41 (f := .free "max") rfl)
  have m_min := He.free_ok X G (c.fact 42 (f := .free "min") rfl)
  have m_range := He.free_ok X G (c.fact 43 (f := .free "range") rfl)
  have m_repr := He.free_ok X G (c.fact 44 (f := .free "repr") rfl)
  have m_sorted := He.free_ok X G (c.fact 45 (f := .free "sorted") rfl)
  have m_str := He.free_ok X G (c.fact 46 (f := .free "str") rfl)
  have m_sum := He.free_ok X G (c.fact 47 (f := .free "sum") rfl)
  have m_tuple := He.free_ok X G (c.fact 48 (f := .free "tuple") rfl)
  have m_zip := He.free_ok X G (c.fact 49 (f := .free "zip") rfl)
  obtain ⟨tM, m_MOST⟩ := He.int_ok X G (c.fact 50 (f := .int "MOST" 5) rfl)
  have F2 : FunD K "is_count" "is_count" (defArgs (top 2)) (defBody (top 2)) (defScope (top 2)) [V.int 0] [] (He.ga K "is_count") d2 := D2
  have B2 : ∃ ds, Vals [V.int 0] ds ∧ Binds K d2 ["value", "least"] ds := F2.binds1 1 0 (List.cons_ne_nil _ _) rfl fun T kV doc pm an cdv ct us its hu hi => match us, hu, its, hi with | [_], _, [_], _ => ⟨_, rfl, rfl⟩
  have B2a : ∃ ds, Vals ([] : List V) ds ∧ Binds K d2 ["value", "least"] ds := F2.binds1 2 1 (List.cons_ne_nil _ _) rfl fun T kV doc pm an cdv ct us its hu hi => match us, hu, its, hi with | [_, _], _, [_], _ => ⟨_, rfl, rfl⟩
  have B1 : Binds K d1 ["value"] [] := F1.binds fun _ _ _ _ _ _ us hl => match us, hl with | [_], _ => rfl
  have B11 : Binds K d11 ["many"] [] := F11.binds fun _ _ _ _ _ _ us hl => match us, hl with | [_], _ => rfl
  have B12 : Binds K d12 ["many", "value"] [] := F12.binds fun _ _ _ _ _ _ us hl => match us, hl with | [_, _], _ => rfl
  have B13 : Binds K d13 ["order", "at"] [] := F13.binds fun _ _ _ _ _ _ us hl => match us, hl with | [_, _], _ => rfl
  have B14 : Binds K d14 ["many", "value"] [] := F14.binds fun _ _ _ _ _ _ us hl => match us, hl with | [_, _], _ => rfl
  have B15 : Binds K d15 ["many", "row"] [] := F15.binds fun _ _ _ _ _ _ us hl => match us, hl with | [_, _], _ => rfl
  have B16 : Binds K d16 ["row"] [] := F16.binds fun _ _ _ _ _ _ us hl => match us, hl with | [_], _ => rfl
  have B17 : Binds K d17 ["many", "row"] [] := F17.binds fun _ _ _ _ _ _ us hl => match us, hl with | [_, _], _ => rfl
  have B18 : Binds K d18 ["many", "one", "other"] [] := F18.binds fun _ _ _ _ _ _ us hl => match us, hl with | [_, _, _], _ => rfl
  have B19 : Binds K d19 ["row"] [] := F19.binds fun _ _ _ _ _ _ us hl => match us, hl with | [_], _ => rfl
  have B20 : Binds K d20 ["found", "later"] [] := F20.binds fun _ _ _ _ _ _ us hl => match us, hl with | [_, _], _ => rfl
  have B21 : Binds K d21 ["many", "one", "other"] [] := F21.binds fun _ _ _ _ _ _ us hl => match us, hl with | [_, _, _], _ => rfl
  have B22 : Binds K d22 ["many"] [] := F22.binds fun _ _ _ _ _ _ us hl => match us, hl with | [_], _ => rfl
  have B23 : Binds K d23 ["many", "one", "other", "value"] [] := F23.binds fun _ _ _ _ _ _ us hl => match us, hl with | [_, _, _, _], _ => rfl
  have B25 : Binds K d25 ["script", "at"] [] := F25.binds fun _ _ _ _ _ _ us hl => match us, hl with | [_, _], _ => rfl
  have B26 : Binds K d26 ["seed", "spin", "at"] [] := F26.binds fun _ _ _ _ _ _ us hl => match us, hl with | [_, _, _], _ => rfl
  have B27 : Binds K d27 ["purse", "many"] [] := F27.binds fun _ _ _ _ _ _ us hl => match us, hl with | [_, _], _ => rfl
  have B28 : Binds K d28 ["script", "few"] [] := F28.binds fun _ _ _ _ _ _ us hl => match us, hl with | [_, _], _ => rfl
  have B29 : Binds K d29 ["purse", "some"] [] := F29.binds fun _ _ _ _ _ _ us hl => match us, hl with | [_, _], _ => rfl
  have B30 : Binds K d30 ["mine", "theirs"] [] := F30.binds fun _ _ _ _ _ _ us hl => match us, hl with | [_, _], _ => rfl
  have B31 : Binds K d31 ["order", "at"] [] := F31.binds fun _ _ _ _ _ _ us hl => match us, hl with | [_, _], _ => rfl
  have B32 : Binds K d32 ["many", "value"] [] := F32.binds fun _ _ _ _ _ _ us hl => match us, hl with | [_, _], _ => rfl
  have B33 : Binds K d33 ["purse", "many"] [] := F33.binds fun _ _ _ _ _ _ us hl => match us, hl with | [_, _], _ => rfl
  have B34 : Binds K d34 ["row"] [] := F34.binds fun _ _ _ _ _ _ us hl => match us, hl with | [_], _ => rfl
  have B35 : Binds K d35 ["many", "one", "other", "value"] [] := F35.binds fun _ _ _ _ _ _ us hl => match us, hl with | [_, _, _, _], _ => rfl
  have B36 : Binds K d36 ["value"] [] := F36.binds fun _ _ _ _ _ _ us hl => match us, hl with | [_], _ => rfl
  have B37 : Binds K d37 ["one", "other"] [] := F37.binds fun _ _ _ _ _ _ us hl => match us, hl with | [_, _], _ => rfl
  have B38 : Binds K d38 ["rows", "known"] [] := F38.binds fun _ _ _ _ _ _ us hl => match us, hl with | [_, _], _ => rfl
  have B39 : Binds K d39 ["purse", "row", "many"] [] := F39.binds fun _ _ _ _ _ _ us hl => match us, hl with | [_, _, _], _ => rfl
  have B40 : Binds K d40 ["purse", "many", "one", "other"] [] := F40.binds fun _ _ _ _ _ _ us hl => match us, hl with | [_, _, _, _], _ => rfl
  have B41 : Binds K d41 ["purse"] [] := F41.binds fun _ _ _ _ _ _ us hl => match us, hl with | [_], _ => rfl
  have B42 : Binds K d42 ["script"] [] := F42.binds fun _ _ _ _ _ _ us hl => match us, hl with | [_], _ => rfl
  have e := hfa.symm.trans g42
  cases e
  refine ⟨d42, fun s v => FunD.bindsA (ps := ["script"]) D42 (fun _ _ _ _ _ _ us hl => match us, hl with | [_], _ => rfl) s [v] rfl, fun base _ _ => ?_⟩
  have O1 : FnOk P w K mg base CX0 1 (He.ga K "is_whole") d1 ["value"] (toSp K S_is_whole) := ok_is_whole (k := 0) (F := F1) (m_isinstance := m_isinstance) (m_int := m_int) (m_bool := m_bool)
  have C_is_whole : Calls P w K mg base 1 "is_whole" S_is_whole := ⟨_, d1, _, O1, g1, F1.kp, B1⟩
  have O2 : FnOk P w K mg base CX0 2 (He.ga K "is_count") d2 ["value", "least"] (toSp K S_is_count) := ok_is_count (F := F2) (C_is_whole := C_is_whole) (m_max := m_max)
  have CD_is_count : CallsD P w K mg base 2 "is_count" [0] S_is_count := by
    obtain ⟨ds, v, b⟩ := B2
    exact ⟨_, d2, ["value", "least"], ds, O2, g2, F2.kp, v, b⟩
  have C_is_count : Calls P w K mg base 2 "is_count" S_is_count := by
    obtain ⟨ds, v, b⟩ := B2a
    cases v
    exact ⟨_, d2, ["value", "least"], O2, g2, F2.kp, b⟩
  have O11 : FnOk P w K mg base CX0 3 (He.ga K "check_many") d11 ["many"] (toSp K S_check_many) := ok_check_many (F := F11) (C_is_count := C_is_count)
  have C_check_many : Calls P w K mg base 3 "check_many" S_check_many := ⟨_, d11, _, O11, g11, F11.kp, B11⟩
  have O12 : FnOk P w K mg base CX0 3 (He.ga K "are_counts_below") d12 ["many", "value"] (toSp K S_below) := ok_below (F := F12) (CD_is_count := CD_is_count) (m_isinstance := m_isinstance) (m_list := m_list) (m_len := m_len) (m_all := m_all)
  have C_are_counts_below : Calls P w K mg base 3 "are_counts_below" S_below := ⟨_, d12, _, O12, g12, F12.kp, B12⟩
  have O13 : FnOk P w K mg base CX0 1 (He.ga K "exchanged") d13 ["order", "at"] (toSp K S_exchanged) := ok_exchanged (F := F13)
  have C_exchanged : Calls P w K mg base 1 "exchanged" S_exchanged := ⟨_, d13, _, O13, g13, F13.kp, B13⟩
  have O14 : FnOk P w K mg base CX0 4 (He.ga K "is_row_there") d14 ["many", "value"] (toSp K S_is_row) := ok_is_row (F := F14) (C_are_counts_below := C_are_counts_below) (C_exchanged := C_exchanged) (m_list := m_list) (m_range := m_range)
  have C_is_row_there : Calls P w K mg base 4 "is_row_there" S_is_row := ⟨_, d14, _, O14, g14, F14.kp, B14⟩
  have O15 : FnOk P w K mg base CX0 5 (He.ga K "check_row") d15 ["many", "row"] (toSp K S_check_row) := ok_check_row (F := F15) (C_check_many := C_check_many) (C_is_row_there := C_is_row_there)
  have C_check_row : Calls P w K mg base 5 "check_row" S_check_row := ⟨_, d15, _, O15, g15, F15.kp, B15⟩
  have O18 : FnOk P w K mg base CX0 6 (He.ga K "check_rows") d18 ["many", "one", "other"] (toSp K S_check_rows) := ok_check_rows (F := F18) (C_check_row := C_check_row) (C_is_row_there := C_is_row_there)
  have C_check_rows : Calls P w K mg base 6 "check_rows" S_check_rows := ⟨_, d18, _, O18, g18, F18.kp, B18⟩
  have O22 : FnOk P w K mg base CX0 3 (He.ga K "check_few") d22 ["many"] (toSp K S_check_few) := ok_check_few (F := F22) (C_is_count := C_is_count) (m_MOST := m_MOST)
  have C_check_few : Calls P w K mg base 3 "check_few" S_check_few := ⟨_, d22, _, O22, g22, F22.kp, B22⟩
  have O16 : FnOk P w K mg base CX0 1 (He.ga K "moved_there") d16 ["row"] (toSp K S_moved) := ok_moved (F := F16) (m_range := m_range) (m_len := m_len) (m_abs := m_abs)
  have C_moved_there : Calls P w K mg base 1 "moved_there" S_moved := ⟨_, d16, _, O16, g16, F16.kp, B16⟩
  have O20 : FnOk P w K mg base CX0 1 (He.ga K "begun") d20 ["found", "later"] (toSp K S_begun) := ok_begun (F := F20) (m_tuple := m_tuple)
  have C_begun : Calls P w K mg base 1 "begun" S_begun := ⟨_, d20, _, O20, g20, F20.kp, B20⟩
  have O19 : FnOk P w K mg base CX0 2 (He.ga K "ways_from") d19 ["row"] (toSp K S_ways) := ok_ways (F := F19) (C_moved_there := C_moved_there) (C_begun := C_begun) (m_tuple := m_tuple)
  have C_ways_from : Calls P w K mg base 2 "ways_from" S_ways := ⟨_, d19, _, O19, g19, F19.kp, B19⟩
  have O21 : FnOk P w K mg base CX0 7 (He.ga K "row_of_moves") d21 ["many", "one", "other"] (toSp K S_rom) := ok_rom (F := F21) (C_check_few := C_check_few) (C_check_rows := C_check_rows) (C_ways := C_ways_from) (m_tuple := m_tuple) (m_list := m_list)
  have C_row_of_moves : Calls P w K mg base 7 "row_of_moves" S_rom := ⟨_, d21, _, O21, g21, F21.kp, B21⟩
  have CK_row_of_moves : CallsK P w K mg base 7 "row_of_moves" ["other", "one", "many"] g3r S_rom := by
    refine ⟨_, d21, _, g3r, O21, g21, F21.kp, kb_of F21 (fun kV doc pm an cdv ct us ws hl => ?_) g3r_rel⟩
    obtain ⟨e1, ws', e2, e3⟩ : us = [] ∧ ∃ ws', ws = ws' ∧ ws'.length = 3 := by
      unfold g3r at hl
      split at hl
      · exact ⟨rfl, _, rfl, rfl⟩
      · cases hl
    subst e1 e2
    match ws, e3 with
    | [_, _, _], _ => rfl
  have O17 : FnOk P w K mg base CX0 6 (He.ga K "moved_rows") d17 ["many", "row"] (toSp K S_moved_rows) := ok_moved_rows (F := F17) (C_check_row := C_check_row) (C_moved_there := C_moved_there) (m_sorted := m_sorted)
  have C_moved_rows : Calls P w K mg base 6 "moved_rows" S_moved_rows := ⟨_, d17, _, O17, g17, F17.kp, B17⟩
  have CK_moved_rows : CallsK P w K mg base 6 "moved_rows" ["row", "many"] g2r S_moved_rows := by
    refine ⟨_, d17, _, g2r, O17, g17, F17.kp, kb_of F17 (fun kV doc pm an cdv ct us ws hl => ?_) g2r_rel⟩
    obtain ⟨e1, ws', e2, e3⟩ : us = [] ∧ ∃ ws', ws = ws' ∧ ws'.length = 2 := by
      unfold g2r at hl
      split at hl
      · exact ⟨rfl, _, rfl, rfl⟩
      · cases hl
    subst e1 e2
    match ws, e3 with
    | [_, _], _ => rfl
  have O23 : FnOk P w K mg base CX0 7 (He.ga K "is_row_of_moves") d23 ["many", "one", "other", "value"] (toSp K S_irom) := ok_irom (F := F23) (C_check_rows := C_check_rows) (C_is_row_there := C_is_row_there) (C_moved_there := C_moved_there) (m_isinstance := m_isinstance) (m_list := m_list) (m_all := m_all) (m_zip := m_zip)
  have C_is_row_of_moves : Calls P w K mg base 7 "is_row_of_moves" S_irom := ⟨_, d23, _, O23, g23, F23.kp, B23⟩
  have CK_is_row_of_moves : CallsK P w K mg base 7 "is_row_of_moves" ["value", "other", "one", "many"] g4r S_irom := by
    refine ⟨_, d23, _, g4r, O23, g23, F23.kp, kb_of F23 (fun kV doc pm an cdv ct us ws hl => ?_) g4r_rel⟩
    obtain ⟨e1, ws', e2, e3⟩ : us = [] ∧ ∃ ws', ws = ws' ∧ ws'.length = 4 := by
      unfold g4r at hl
      split at hl
      · exact ⟨rfl, _, rfl, rfl⟩
      · cases hl
    subst e1 e2
    match ws, e3 with
    | [_, _, _, _], _ => rfl
  have O26 : FnOk P w K mg base CX0 1 (He.ga K "_law_mixed") d26 ["seed", "spin", "at"] (toSp K S_mixed) := ok_mixed (F := F26) (m_int := m_int)
  have C__law_mixed : Calls P w K mg base 1 "_law_mixed" S_mixed := ⟨_, d26, _, O26, g26, F26.kp, B26⟩
  have O27 : FnOk P w K mg base CX0 2 (He.ga K "_law_draw") d27 ["purse", "many"] (toSp K S_draw) := ok_draw (F := F27) (C_mixed := C__law_mixed) (m_int := m_int) (m_range := m_range)
  have C__law_draw : Calls P w K mg base 2 "_law_draw" S_draw := ⟨_, d27, _, O27, g27, F27.kp, B27⟩
  have O29 : FnOk P w K mg base CX0 3 (He.ga K "_law_one_of") d29 ["purse", "some"] (toSp K S_one_of) := ok_one_of (F := F29) (C_draw := C__law_draw) (m_len := m_len)
  have C__law_one_of : Calls P w K mg base 3 "_law_one_of" S_one_of := ⟨_, d29, _, O29, g29, F29.kp, B29⟩
  have O31 : FnOk P w K mg base CX0 1 (He.ga K "_law_exchanged") d31 ["order", "at"] (toSp K S_exchanged) := ok_lexch (F := F31)
  have C__law_exchanged : Calls P w K mg base 1 "_law_exchanged" S_exchanged := ⟨_, d31, _, O31, g31, F31.kp, B31⟩
  have O32 : FnOk P w K mg base CX0 2 (He.ga K "_law_is_row") d32 ["many", "value"] (toSp K S_is_row) := ok_lis_row (F := F32) (C_lexch := C__law_exchanged) (m_isinstance := m_isinstance) (m_list := m_list) (m_int := m_int) (m_bool := m_bool) (m_len := m_len) (m_range := m_range)
  have C__law_is_row : Calls P w K mg base 2 "_law_is_row" S_is_row := ⟨_, d32, _, O32, g32, F32.kp, B32⟩
  have O34 : FnOk P w K mg base CX0 1 (He.ga K "_law_moved") d34 ["row"] (toSp K S_lmoved) := ok_lmoved (F := F34) (m_range := m_range) (m_len := m_len) (m_abs := m_abs)
  have C__law_moved : Calls P w K mg base 1 "_law_moved" S_lmoved := ⟨_, d34, _, O34, g34, F34.kp, B34⟩
  have O35 : FnOk P w K mg base CX0 3 (He.ga K "_law_is_moves") d35 ["many", "one", "other", "value"] (toSp K S_lis_moves) := ok_lis_moves (F := F35) (C_lis_row := C__law_is_row) (C_lmoved := C__law_moved) (m_isinstance := m_isinstance) (m_list := m_list) (m_range := m_range) (m_len := m_len)
  have C__law_is_moves : Calls P w K mg base 3 "_law_is_moves" S_lis_moves := ⟨_, d35, _, O35, g35, F35.kp, B35⟩
  have O36 : FnOk P w K mg base CX0 2 (He.ga K "_law_cost") d36 ["value"] (toSp K S_cost) := ok_cost (F := F36) (C_lmoved := C__law_moved) (m_range := m_range) (m_len := m_len) (m_min := m_min)
  have C__law_cost : Calls P w K mg base 2 "_law_cost" S_cost := ⟨_, d36, _, O36, g36, F36.kp, B36⟩
  have O38 : FnOk P w K mg base CX0 2 (He.ga K "_law_around") d38 ["rows", "known"] (toSp K S_around) := ok_around (F := F38) (C_lmoved := C__law_moved) (m_list := m_list) (m_tuple := m_tuple)
  have C__law_around : Calls P w K mg base 2 "_law_around" S_around := ⟨_, d38, _, O38, g38, F38.kp, B38⟩
  have O37 : FnOk P w K mg base CX0 3 (He.ga K "_law_fewest") d37 ["one", "other"] (toSp K S_fewest) := ok_fewest (F := F37) (C_around := C__law_around) (C_lmoved := C__law_moved) (m_dict := m_dict) (m_tuple := m_tuple)
  have C__law_fewest : Calls P w K mg base 3 "_law_fewest" S_fewest := ⟨_, d37, _, O37, g37, F37.kp, B37⟩
  have O33 : FnOk P w K mg base CX0 4 (He.ga K "_law_row") d33 ["purse", "many"] (toSp K S_row) := ok_row (F := F33) (C_one_of := C__law_one_of) (C_lexch := C__law_exchanged) (m_list := m_list) (m_range := m_range)
  have C__law_row : Calls P w K mg base 4 "_law_row" S_row := ⟨_, d33, _, O33, g33, F33.kp, B33⟩
  have O39 : FnOk P w K mg base CX0 4 (He.ga K "_law_walked") d39 ["purse", "row", "many"] (toSp K S_walked) := ok_walked (F := F39) (C_one_of := C__law_one_of) (C_lmoved := C__law_moved) (m_range := m_range)
  have C__law_walked : Calls P w K mg base 4 "_law_walked" S_walked := ⟨_, d39, _, O39, g39, F39.kp, B39⟩
  have C_exact1 : Calls P w K mg base 2 "_law_exact" (S_exact 1) := ⟨He.ga K "_law_exact", d30, ["mine", "theirs"], ok_exact (F := F30) (mgf := g30) (hb := B30) (m_isinstance := m_isinstance) (m_dict := m_dict) (m_list := m_list) (m_tuple := m_tuple) (m_int := m_int) (m_str := m_str) (m_bool := m_bool) (m_len := m_len) (m_all := m_all) (m_zip := m_zip) 1, g30, F30.kp, B30⟩
  have C_exact3 : Calls P w K mg base 4 "_law_exact" (S_exact 3) := ⟨He.ga K "_law_exact", d30, ["mine", "theirs"], ok_exact (F := F30) (mgf := g30) (hb := B30) (m_isinstance := m_isinstance) (m_dict := m_dict) (m_list := m_list) (m_tuple := m_tuple) (m_int := m_int) (m_str := m_str) (m_bool := m_bool) (m_len := m_len) (m_all := m_all) (m_zip := m_zip) 3, g30, F30.kp, B30⟩
  have O25 : FnOk P w K mg base CX0 1 (He.ga K "_law_purse") d25 ["script", "at"] (toSp K S_purse) := ok_purse (F := F25) (m_sum := m_sum) (m_int := m_int) (m_max := m_max)
  have C__law_purse : Calls P w K mg base 1 "_law_purse" S_purse := ⟨_, d25, _, O25, g25, F25.kp, B25⟩
  have O28 : FnOk P w K mg base CX0 2 (He.ga K "_law_purses") d28 ["script", "few"] (rawP K) := ok_purses (F := F28) (C_purse := C__law_purse) (m_range := m_range) (m_max := m_max) (m_min := m_min) (m_len := m_len)
  have O40 : FnG P w K mg base 10 (He.ga K "_law_rows_right") d40 ["purse", "many", "one", "other"] (toSp K S_rr) := ok_rr (F := F40) (C_rom := C_row_of_moves) (CK_rom := CK_row_of_moves) (m_repr := m_repr) (C_lis_moves := C__law_is_moves) (C_cost := C__law_cost) (C_fewest := C__law_fewest) (C_walked := C__law_walked) (C_draw := C__law_draw) (C_exact := C_exact1) (C_irom := C_is_row_of_moves) (CK_irom := CK_is_row_of_moves) (m_len := m_len) (m_tuple := m_tuple) (m_list := m_list) (MW := walk_rows) (MS := row_small)
  have C__law_rows_right : CallsG P w K mg base 10 "_law_rows_right" S_rr := ⟨_, d40, _, O40, g40, F40.kp, B40⟩
  have O41 : FnG P w K mg base 11 (He.ga K "_law_right") d41 ["purse"] (toSp K S_right) := ok_right (F := F41) (C_draw := C__law_draw) (C_row := C__law_row) (C_lmoved := C__law_moved) (C_moved_rows := C_moved_rows) (CK_moved_rows := CK_moved_rows) (C_exact := C_exact3) (C_rr := C__law_rows_right) (C_walked := C__law_walked) (m_sorted := m_sorted) (m_repr := m_repr)
  have C__law_right : CallsG P w K mg base 11 "_law_right" S_right := ⟨_, d41, _, O41, g41, F41.kp, B41⟩
  exact ok_law (F := F42) (FP := O28) (gP := g28) (kP := F28.kp) (bP := B28) (C_right := C__law_right) (C_row_of_moves := C_row_of_moves) (C_moved_rows := C_moved_rows) (C__law_cost := C__law_cost) (C__law_exact := C_exact3)
end K75
set_option Elab.async false
set_option autoImplicit false
set_option linter.all false
set_option maxRecDepth 100000
set_option maxHeartbeats 0
namespace K75
open PySem PySem.Spec PyProof.Rows L2 Bv
abbrev R : PySem.W.OpenRow := PySem.W.OpenLaw.row PySem.Challenge.rw_straightcuts_k75_whole_moves
abbrev hk : PySem.W.Hook := He.hookD 4 fa fn
def ob (s : PySem.W.SharedT) : He.AlD := He.obsDG 4 fa fn (HandSHeadRun.getT s)
theorem ob_eq (s : PySem.W.SharedT) : ob s = hk.obs s.abs := He.obsDG_eq (HandSHeadRun.getT_eq s)
def loose1 : List Str := ["is_whole", "is_count", "PlaneError", "InvalidMany", "InvalidRow", "InvalidOtherRow", "MOST", "check_many", "are_counts_below", "exchanged", "is_row_there", "check_row", "moved_there", "moved_rows", "check_rows", "ways_from", "begun", "row_of_moves"]
def loose2 : List Str := ["check_few", "is_row_of_moves", "_law_purse", "_law_mixed", "_law_draw", "_law_purses", "_law_one_of", "_law_exact", "_law_exchanged", "_law_is_row", "_law_row", "_law_moved", "_law_is_moves", "_law_cost", "_law_fewest", "_law_around", "_law_walked", "_law_rows_right", "_law_right"]
def loose : List Str := loose1 ++ loose2
theorem run (w : World) : HandSHeadRun.RunEq R (PySem.W.view R.prog [42]) hk ob 3000 loose w := by
  intro os
  kernel_rfl
end K75
open PySem PySem.W PySem.Calls PyProof.Rows
theorem PySem.Challenge.cw_straightcuts_k75_whole_moves_holds : PySem.Challenge.rw_straightcuts_k75_whole_moves.Holds := by
  w_on; o_law
  refine HandSHeadRun.head_any (r := OpenLaw.row PySem.Challenge.rw_straightcuts_k75_whole_moves) (q := view (OpenLaw.row PySem.Challenge.rw_straightcuts_k75_whole_moves).prog [42]) (H := K75.hk) (ob := K75.ob) (M := 3000) (loose := K75.loose) (d := HandSHeadRun.topDef (OpenLaw.row PySem.Challenge.rw_straightcuts_k75_whole_moves).prog 42) (kwd := []) K75.ob_eq
    (by kernel_rfl) (fun s => by kernel_rfl) K75.run (by kernel_rfl) (by kernel_rfl) (by kernel_rfl) (by rfl) (by first | assumption | decide +kernel) (by decide +kernel) ⟨rfl, rfl, rfl, rfl, rfl, by decide +kernel⟩ ?hw ?hc
  case hw => w_witness2
  case hc =>
    refine Bv.walk_ofG (l := PySem.Challenge.rw_straightcuts_k75_whole_moves) (n := 63) (k := 12) (x := "script") rfl (by decide) (by kernel_rfl) ⟨rfl, by decide, by decide⟩ ?F
    intro w mg fa h Y G hmg0
    obtain ⟨K, KX, c⟩ := Y
    have hmg : mg ("law" : PySem.Str) = some (.ref fa) := by
      have e : (HandSHeadRun.topDef (OpenLaw.row PySem.Challenge.rw_straightcuts_k75_whole_moves).prog 42).name = ("law" : PySem.Str) := by kernel_rfl
      rw [← e]
      exact hmg0
    obtain ⟨fd, hb, hF⟩ := K75.facts (P := (PySem.Challenge.rw_straightcuts_k75_whole_moves).prog) (w := w) KX G hmg c
    exact ⟨K, fd, Bv.toSp K K75.S_law, KX, hb, fun H a ns hl _ hS => Bv.sp_script hS ⟨ns, rfl, Nat.lt_of_le_of_lt hl (by decide), rfl⟩, hF⟩
