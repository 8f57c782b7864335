import PyProof.Rows.All
import Wide.All
import OpenK.AllK
import Wide.FinOn
import HandS.ForMost
import HandS.ForExc
import HandS.Style
import HandS.TupAny
import HandS.TupMul
import HandS.Deep
import HandS.IsInst
import HandS.SortInts
import HandS.SetFor
import HandS.ExcIs
import HandS.HotCalls
import HandS.Strs
import HandS.TupSets
import HandS.TupLe
import HandS.NoneIn
import KE.GoesMore
import KE.GoesEnum
import HandS.Defaults
import HandS.HeadHook2
import HandS.HeadEnd
import KE.KStateDown
import Lean
import HandS.More
import HandS.Head0
import HandS.Head1
import HandS.Head2
import PySem.Challenge.RW_powerfields_k01_whole_rings
set_option Elab.async false
set_option linter.all false
set_option maxRecDepth 100000
section
namespace PF
open PySem PySem.Spec PyProof.Rows L2

/-! data: what a value stands for -/
inductive D where
  | none | bool (b : Bool) | int (i : Int) | str (x : Str) | lst (ds : List D) | tup (ds : List D) | scr (ns : List Int)
  deriving Inhabited

mutual
def D.py : D → PyData
  | .none => .none
  | .bool b => .bool b
  | .int i => .int i
  | .str x => .str x
  | .lst ds => .list (D.pys ds)
  | .tup ds => .tuple (D.pys ds)
  | .scr ns => .list (ns.map PyData.int)
def D.pys : List D → List PyData
  | [] => []
  | d :: ds => d.py :: D.pys ds
end

mutual
inductive Dq (K : PySem.W.Frag) (H : Hp) : V → D → Prop
  | non : Dq K H .non .none
  | bl (b : Bool) : Dq K H (.bl b) (.bool b)
  | int (i : Int) : Dq K H (.int i) (.int i)
  | str (x : Str) : Dq K H (.str x) (.str x)
  | lst {a : Addr} {xs : List V} {ds : List D} : H a = some (.lst xs) → Dqs K H xs ds → Dq K H (.ref a) (.lst ds)
  | tup {a : Addr} {xs : List V} {ds : List D} : SqT K H a xs → Dqs K H xs ds → Dq K H (.ref a) (.tup ds)
  | scr {a : Addr} {ns : List Int} : SqL K H a (ns.map V.int) → Dq K H (.ref a) (.scr ns)
inductive Dqs (K : PySem.W.Frag) (H : Hp) : List V → List D → Prop
  | nil : Dqs K H [] []
  | cons {v : V} {vs : List V} {d : D} {ds : List D} : Dq K H v d → Dqs K H vs ds → Dqs K H (v :: vs) (d :: ds)
end

section
variable {K : PySem.W.Frag} {G G' H H' : Hp}
theorem seqT_mono {a : Addr} {xs : List V} (e : Same G G') (h : SqT K G a xs) : SqT K G' a xs := by
  rcases h with (h | ⟨o, h⟩) | h
  · exact .inl (.inl (e _ _ h))
  · exact .inl (.inr ⟨o, e _ _ h⟩)
  · exact .inr h
mutual
theorem Dq.mono (e : Same G G') : ∀ {v : V} {d : D}, Dq K G v d → Dq K G' v d
  | _, _, .non => .non
  | _, _, .bl b => .bl b
  | _, _, .int i => .int i
  | _, _, .str x => .str x
  | _, _, .lst h hs => .lst (e _ _ h) (Dqs.mono e hs)
  | _, _, .tup h hs => .tup (seqT_mono e h) (Dqs.mono e hs)
  | _, _, .scr h => .scr (e.seq h)
theorem Dqs.mono (e : Same G G') : ∀ {vs : List V} {ds : List D}, Dqs K G vs ds → Dqs K G' vs ds
  | _, _, .nil => .nil
  | _, _, .cons h hs => .cons (Dq.mono e h) (Dqs.mono e hs)
end
theorem Dqs.length : ∀ {vs : List V} {ds : List D}, Dqs K G vs ds → vs.length = ds.length
  | _, _, .nil => rfl
  | _, _, .cons _ t => congrArg Nat.succ (Dqs.length t)
theorem Dqs.get : ∀ {vs : List V} {ds : List D} {i : Nat} {d : D}, Dqs K G vs ds → ds[i]? = some d → ∃ v, vs[i]? = some v ∧ Dq K G v d
  | _, _, _, _, .nil, e => by simp at e
  | _, _, 0, _, .cons r _, e => by
    have e := Option.some.inj e
    exact ⟨_, rfl, e ▸ r⟩
  | _, _, i + 1, d, .cons _ t, e => Dqs.get (i := i) (d := d) t e
theorem Dqs.append : ∀ {vs ws : List V} {ds es : List D}, Dqs K G vs ds → Dqs K G ws es → Dqs K G (vs ++ ws) (ds ++ es)
  | _, _, _, _, .nil, s => s
  | _, _, _, _, .cons r t, s => .cons r (Dqs.append t s)
theorem Dqs.take : ∀ {vs : List V} {ds : List D} (n : Nat), Dqs K G vs ds → Dqs K G (vs.take n) (ds.take n)
  | _, _, 0, _ => .nil
  | _, _, _ + 1, .nil => .nil
  | _, _, n + 1, .cons r t => .cons r (Dqs.take n t)
theorem Dqs.drop : ∀ {vs : List V} {ds : List D} (n : Nat), Dqs K G vs ds → Dqs K G (vs.drop n) (ds.drop n)
  | _, _, 0, r => r
  | _, _, _ + 1, .nil => .nil
  | _, _, n + 1, .cons _ t => Dqs.drop n t
theorem Dqs.reverse {vs : List V} {ds : List D} (h : Dqs K G vs ds) : Dqs K G vs.reverse ds.reverse := by
  induction ds generalizing vs with
  | nil => cases h; exact .nil
  | cons d ds ih =>
    cases h with
    | cons a b =>
      rw [List.reverse_cons, List.reverse_cons]
      exact (ih b).append (.cons a .nil)
theorem Dqs.set {v : V} {d : D} (h : Dq K G v d) : ∀ {vs : List V} {ds : List D} (i : Nat), Dqs K G vs ds → Dqs K G (vs.set i v) (ds.set i d)
  | _, _, _, .nil => .nil
  | _, _, 0, .cons _ t => .cons h t
  | _, _, i + 1, .cons q t => .cons q (Dqs.set h i t)
theorem Dqs.rep {vs : List V} {ds : List D} (h : Dqs K G vs ds) : ∀ k : Nat, Dqs K G (List.replicate k vs).flatten (List.replicate k ds).flatten
  | 0 => .nil
  | k + 1 => by
    rw [List.replicate_succ, List.replicate_succ, List.flatten_cons, List.flatten_cons]
    exact h.append (Dqs.rep h k)
theorem Dqs.ints : ∀ {ns : List Int} {vs : List V}, Dqs K G vs (ns.map D.int) → vs = ns.map V.int
  | [], _, .nil => rfl
  | _ :: _, _, .cons (.int _) t => congrArg _ (Dqs.ints t)
theorem dqs_ints (K : PySem.W.Frag) (G : Hp) : ∀ ns : List Int, Dqs K G (ns.map V.int) (ns.map D.int)
  | [] => .nil
  | n :: ns => .cons (.int n) (dqs_ints K G ns)
theorem dpAll_ints (K : PySem.W.Frag) (G : Hp) : ∀ ns : List Int, DpAll K G (ns.map V.int) (ns.map PyData.int)
  | [] => .nil
  | n :: ns => .cons (.int n) (dpAll_ints K G ns)
mutual
theorem Dq.dp : ∀ {v : V} {d : D}, Dq K G v d → Dp K G v d.py
  | _, _, .non => .non
  | _, _, .bl b => .bl b
  | _, _, .int i => .int i
  | _, _, .str x => .str x
  | _, _, .lst h hs => .lst (.inl (.inl h)) (Dqs.dp hs)
  | _, _, .tup h hs => .tup h (Dqs.dp hs)
  | _, _, .scr h => .lst h (dpAll_ints K G _)
theorem Dqs.dp : ∀ {vs : List V} {ds : List D}, Dqs K G vs ds → DpAll K G vs (D.pys ds)
  | _, _, .nil => .nil
  | _, _, .cons h hs => .cons (Dq.dp h) (Dqs.dp hs)
end
end

/-! slots: what a local name holds; mutable things stand in one slot alone -/
inductive Sl where
  | un
  | val (d : D)
  | own (ds : List D)
  | io (ds : List D)
  | dct (kvs : List (Key × D))
  | dtp (kvs : List (List Key × D))
abbrev Rho := List Sl
def Sl.mu : Sl → Bool
  | .un => false
  | .val _ => false
  | _ => true
def Sl.isIo : Sl → Bool
  | .io _ => true
  | _ => false

inductive Prs {α β : Type} (F : α → β → Prop) : List α → List β → Prop
  | nil : Prs F [] []
  | cons {a b l m} : F a b → Prs F l m → Prs F (a :: l) (b :: m)
theorem Prs.imp {α β : Type} {F F' : α → β → Prop} (h : ∀ a b, F a b → F' a b) : ∀ {l : List α} {m : List β}, Prs F l m → Prs F' l m
  | _, _, .nil => .nil
  | _, _, .cons a t => .cons (h _ _ a) (t.imp h)
theorem Prs.length {α β : Type} {F : α → β → Prop} : ∀ {l : List α} {m : List β}, Prs F l m → l.length = m.length
  | _, _, .nil => rfl
  | _, _, .cons _ t => congrArg Nat.succ t.length

/-- the frame of a call: what stood at its entry -/
structure Fx where
  K : PySem.W.Frag
  H0 : Hp
  G0 : Hp
  ia : Nat → Addr

def Mo (K : PySem.W.Frag) (G H : Hp) (p : Addr) : Sl → Prop
  | .own ds => ∃ vs, H p = some (.lst vs) ∧ Dqs K G vs ds
  | .io ds => ∃ vs, H p = some (.lst vs) ∧ Dqs K G vs ds
  | .dct kvs => ∃ ws, H p = some (.dK ws) ∧ Prs (fun (a : Key × V) (b : Key × D) => a.1 = b.1 ∧ Dq K G a.2 b.2) ws kvs
  | .dtp kvs => ∃ ws, H p = some (.dT ws) ∧ Prs (fun (a : List Key × V) (b : List Key × D) => a.1 = b.1 ∧ Dq K G a.2 b.2) ws kvs
  | _ => False
theorem Mo.mono {K : PySem.W.Frag} {G G' H H' : Hp} {p : Addr} {s : Sl} (e : Same G G') (eh : H' p = H p) (m : Mo K G H p s) : Mo K G' H' p s := by
  cases s with
  | un => exact m
  | val d => exact m
  | own ds => obtain ⟨vs, h, r⟩ := m; exact ⟨vs, eh.trans h, r.mono e⟩
  | io ds => obtain ⟨vs, h, r⟩ := m; exact ⟨vs, eh.trans h, r.mono e⟩
  | dct kvs => obtain ⟨vs, h, r⟩ := m; exact ⟨vs, eh.trans h, r.imp fun a b ⟨x, y⟩ => ⟨x, y.mono e⟩⟩
  | dtp kvs => obtain ⟨vs, h, r⟩ := m; exact ⟨vs, eh.trans h, r.imp fun a b ⟨x, y⟩ => ⟨x, y.mono e⟩⟩
theorem Mo.mu {K : PySem.W.Frag} {G H : Hp} {p : Addr} {s : Sl} (m : Mo K G H p s) : s.mu = true := by
  cases s <;> first | rfl | exact m.elim
theorem Mo.some {K : PySem.W.Frag} {G H : Hp} {p : Addr} {s : Sl} (m : Mo K G H p s) : ∃ o, H p = some o := by
  cases s with
  | un => exact m.elim
  | val d => exact m.elim
  | own ds => obtain ⟨vs, h, r⟩ := m; exact ⟨_, h⟩
  | io ds => obtain ⟨vs, h, r⟩ := m; exact ⟨_, h⟩
  | dct kvs => obtain ⟨vs, h, r⟩ := m; exact ⟨_, h⟩
  | dtp kvs => obtain ⟨vs, h, r⟩ := m; exact ⟨_, h⟩

/-- a slot's value v is of slot s; i: its place -/
def So (F : Fx) (G H : Hp) (i : Nat) (o : Option (Option V)) : Sl → Prop
  | .un => True
  | .val d => ∃ v, o = some (some v) ∧ Dq F.K G v d
  | s => ∃ p, o = some (some (.ref p)) ∧ G p = none ∧ F.H0 p = none ∧ Mo F.K G H p s ∧ (s.isIo = true → p = F.ia i)
theorem So.mut {F : Fx} {G H : Hp} {i : Nat} {o : Option (Option V)} {s : Sl} (hm : s.mu = true) (h : So F G H i o s) : ∃ p, o = some (some (.ref p)) ∧ G p = none ∧ F.H0 p = none ∧ Mo F.K G H p s ∧ (s.isIo = true → p = F.ia i) := by
  cases s <;> first | exact h | cases hm
theorem So.ofMut {F : Fx} {G H : Hp} {i : Nat} {o : Option (Option V)} {s : Sl} (h : ∃ p, o = some (some (.ref p)) ∧ G p = none ∧ F.H0 p = none ∧ Mo F.K G H p s ∧ (s.isIo = true → p = F.ia i)) : So F G H i o s := by
  obtain ⟨p, h1, h2, h3, h4, h5⟩ := h
  cases s <;> first | exact ⟨p, h1, h2, h3, h4, h5⟩ | exact h4.elim

/-- the slot i is mutable and holds the address p -/
def Hd (ρ : Rho) (σ : L2.St) (i : Nat) (p : Addr) : Prop := ∃ s, ρ[i]? = some s ∧ s.mu = true ∧ σ[i]? = some (some (.ref p))

structure Rel (F : Fx) (ρ : Rho) (σ : L2.St) (G H : Hp) : Prop where
  len : ρ.length = σ.length
  gh : Same G H
  h0 : Same F.H0 H
  g0 : ∀ a o, G a = some o → F.G0 a = some o ∨ F.H0 a = none
  sl : ∀ i s, ρ[i]? = some s → So F G H i σ[i]? s
  ap : ∀ i j p, Hd ρ σ i p → Hd ρ σ j p → i = j

section
variable {F : Fx} {ρ ρ' : Rho} {σ : L2.St} {G G' H H' : Hp}
theorem Rel.hd (r : Rel F ρ σ G H) {i : Nat} {p : Addr} (h : Hd ρ σ i p) : ∃ s, ρ[i]? = some s ∧ G p = none ∧ F.H0 p = none ∧ Mo F.K G H p s ∧ (s.isIo = true → p = F.ia i) := by
  obtain ⟨s, e, m, es⟩ := h
  obtain ⟨q, e1, e2, e3, e4, e5⟩ := So.mut m (r.sl i s e)
  rw [es] at e1
  cases e1
  exact ⟨s, e, e2, e3, e4, e5⟩
/-- new objects come, nothing of a slot is touched -/
theorem Rel.grow (r : Rel F ρ σ G H) (e : Same G G') (gh : Same G' H') (h0 : Same F.H0 H') (g0 : ∀ a o, G' a = some o → F.G0 a = some o ∨ F.H0 a = none)
    (k : ∀ i p, Hd ρ σ i p → H' p = H p ∧ G' p = none) : Rel F ρ σ G' H' where
  len := r.len
  gh := gh
  h0 := h0
  g0 := g0
  sl := fun i s hs => by
    have q := r.sl i s hs
    by_cases hm : s.mu = true
    · obtain ⟨p, e1, e2, e3, e4, e5⟩ := So.mut hm q
      obtain ⟨k1, k2⟩ := k i p ⟨s, hs, hm, e1⟩
      exact So.ofMut ⟨p, e1, k2, e3, e4.mono e k1, e5⟩
    · cases s with
      | un => trivial
      | val d =>
        obtain ⟨v, e1, e2⟩ := q
        exact ⟨v, e1, e2.mono e⟩
      | _ => exact absurd rfl hm
  ap := r.ap
/-- a new object is laid and frozen -/
theorem same_upd {H : Hp} {p : Addr} {o : HO} (h : H p = none) : Same H (upd H p o) := fun b x e => by
  rw [upd_ne (ne_of_none e h)]
  exact e
theorem same_upd2 {p : Addr} {o : HO} (h : Same G H) : Same (upd G p o) (upd H p o) := fun b x e => by
  unfold upd at e ⊢
  split at e
  · rename_i hb; rw [if_pos hb]; exact e
  · rename_i hb; rw [if_neg hb]; exact h b x e
theorem Rel.laid (r : Rel F ρ σ G H) {p : Addr} {o : HO} (h : H p = none) : Same G (upd G p o) ∧ Rel F ρ σ (upd G p o) (upd H p o) := by
  have hg : G p = none := r.gh.free h
  have h0 : F.H0 p = none := r.h0.free h
  refine ⟨same_upd hg, r.grow (same_upd hg) (same_upd2 r.gh) (fun b x e => same_upd h b x (r.h0 b x e)) (fun a x e => ?_) fun i q hd => ?_⟩
  · unfold upd at e
    split at e
    · rename_i hb; subst hb; exact .inr h0
    · exact r.g0 a x e
  · obtain ⟨s, e, e2, e3, e4, _⟩ := r.hd hd
    obtain ⟨u, eu⟩ := e4.some
    have ne : q ≠ p := ne_of_none eu h
    exact ⟨upd_ne ne, (upd_ne ne).trans e2⟩
/-- a new object is laid, and not frozen -/
theorem Rel.laidM (r : Rel F ρ σ G H) {p : Addr} {o : HO} (h : H p = none) : Rel F ρ σ G (upd H p o) := by
  refine r.grow (Same.refl G) (fun b x e => same_upd h b x (r.gh b x e)) (fun b x e => same_upd h b x (r.h0 b x e)) r.g0 fun i q hd => ?_
  obtain ⟨s, e, e2, e3, e4, _⟩ := r.hd hd
  obtain ⟨u, eu⟩ := e4.some
  exact ⟨upd_ne (ne_of_none eu h), e2⟩
/-- a mutable thing that no slot holds is frozen -/
theorem Rel.freeze (r : Rel F ρ σ G H) {p : Addr} {o : HO} (h : H p = some o) (hg : G p = none) (h0 : F.H0 p = none) (hn : ∀ i, ¬ Hd ρ σ i p) : Same G (upd G p o) ∧ Rel F ρ σ (upd G p o) H := by
  refine ⟨same_upd hg, r.grow (same_upd hg) (fun b x e => ?_) r.h0 (fun a x e => ?_) fun i q hd => ⟨rfl, ?_⟩⟩
  · unfold upd at e
    split at e
    · rename_i hb; subst hb; rw [h]; exact e
    · exact r.gh b x e
  · unfold upd at e
    split at e
    · rename_i hb; subst hb; exact .inr h0
    · exact r.g0 a x e
  · have ne : q ≠ p := fun z => hn i (z ▸ hd)
    obtain ⟨s, e, e2, _⟩ := r.hd hd
    exact (upd_ne ne).trans e2
/-- a slot gets another meaning at its value (own: frozen) -/
theorem Rel.slotV (r : Rel F ρ σ G H) {i : Nat} {v : V} {d : D} (hv : σ[i]? = some (some v)) (hd : Dq F.K G v d) : Rel F (ρ.set i (.val d)) σ G H where
  len := by rw [List.length_set]; exact r.len
  gh := r.gh
  h0 := r.h0
  g0 := r.g0
  sl := fun j s hs => by
    by_cases hj : i = j
    · subst hj
      by_cases hi : i < ρ.length
      · rw [List.getElem?_set_self hi] at hs
        cases hs
        exact ⟨v, hv, hd⟩
      · rw [List.getElem?_eq_none (by rw [List.length_set]; omega)] at hs
        cases hs
    · rw [List.getElem?_set_ne hj] at hs
      exact r.sl j s hs
  ap := fun j k p h1 h2 => by
    have back : ∀ j, Hd (ρ.set i (.val d)) σ j p → Hd ρ σ j p := fun j ⟨s, e, m, es⟩ => by
      by_cases hj : i = j
      · subst hj
        by_cases hi : i < ρ.length
        · rw [List.getElem?_set_self hi] at e
          cases e
          cases m
        · rw [List.getElem?_eq_none (by rw [List.length_set]; omega)] at e
          cases e
      · rw [List.getElem?_set_ne hj] at e
        exact ⟨s, e, m, es⟩
    exact r.ap j k p (back j h1) (back k h2)
/-- a value is stored in a slot -/
theorem Rel.store (r : Rel F ρ σ G H) {i : Nat} {v : V} {d : D} (hd : Dq F.K G v d) : Rel F (ρ.set i (.val d)) (σ.set i (some v)) G H where
  len := by rw [List.length_set, List.length_set]; exact r.len
  gh := r.gh
  h0 := r.h0
  g0 := r.g0
  sl := fun j s hs => by
    by_cases hj : i = j
    · subst hj
      by_cases hi : i < ρ.length
      · rw [List.getElem?_set_self hi] at hs
        cases hs
        rw [List.getElem?_set_self (by rw [← r.len]; exact hi)]
        exact ⟨v, rfl, hd⟩
      · rw [List.getElem?_eq_none (by rw [List.length_set]; omega)] at hs
        cases hs
    · rw [List.getElem?_set_ne hj] at hs
      rw [List.getElem?_set_ne hj]
      exact r.sl j s hs
  ap := fun j k p h1 h2 => by
    have back : ∀ j, Hd (ρ.set i (.val d)) (σ.set i (some v)) j p → Hd ρ σ j p := fun j ⟨s, e, m, es⟩ => by
      by_cases hj : i = j
      · subst hj
        by_cases hi : i < ρ.length
        · rw [List.getElem?_set_self hi] at e
          cases e
          cases m
        · rw [List.getElem?_eq_none (by rw [List.length_set]; omega)] at e
          cases e
      · rw [List.getElem?_set_ne hj] at e es
        exact ⟨s, e, m, es⟩
    exact r.ap j k p (back j h1) (back k h2)
/-- a mutable thing that no slot holds is stored in a slot -/
theorem Rel.storeM (r : Rel F ρ σ G H) {i : Nat} {p : Addr} {s : Sl} (hg : G p = none) (h0 : F.H0 p = none) (m : Mo F.K G H p s) (hio : s.isIo = false) (hn : ∀ i, ¬ Hd ρ σ i p) : Rel F (ρ.set i s) (σ.set i (some (.ref p))) G H where
  len := by rw [List.length_set, List.length_set]; exact r.len
  gh := r.gh
  h0 := r.h0
  g0 := r.g0
  sl := fun j t hs => by
    by_cases hj : i = j
    · subst hj
      by_cases hi : i < ρ.length
      · rw [List.getElem?_set_self hi] at hs
        cases hs
        rw [List.getElem?_set_self (by rw [← r.len]; exact hi)]
        exact So.ofMut ⟨p, rfl, hg, h0, m, fun z => by rw [hio] at z; cases z⟩
      · rw [List.getElem?_eq_none (by rw [List.length_set]; omega)] at hs
        cases hs
    · rw [List.getElem?_set_ne hj] at hs
      rw [List.getElem?_set_ne hj]
      exact r.sl j t hs
  ap := fun j k q h1 h2 => by
    have back : ∀ j, Hd (ρ.set i s) (σ.set i (some (.ref p))) j q → (j = i ∧ q = p) ∨ Hd ρ σ j q := fun j ⟨t, e, m, es⟩ => by
      by_cases hj : i = j
      · subst hj
        by_cases hi : i < ρ.length
        · rw [List.getElem?_set_self (by rw [← r.len]; exact hi)] at es
          cases es
          exact .inl ⟨rfl, rfl⟩
        · rw [List.getElem?_eq_none (by rw [List.length_set]; omega)] at e
          cases e
      · rw [List.getElem?_set_ne hj] at e es
        exact .inr ⟨t, e, m, es⟩
    rcases back j h1 with ⟨a, b⟩ | a <;> rcases back k h2 with ⟨c, d⟩ | c
    · rw [a, c]
    · subst b; exact absurd c (hn k)
    · subst d; exact absurd a (hn j)
    · exact r.ap j k q a c
/-- the mutable thing of a slot is changed -/
theorem Rel.write (r : Rel F ρ σ G H) {i : Nat} {p : Addr} {s s' : Sl} {o : HO} (hs : ρ[i]? = some s) (hm : s.mu = true) (hp : σ[i]? = some (some (.ref p))) (hio : s'.isIo = s.isIo) (m : Mo F.K G (upd H p o) p s') : Rel F (ρ.set i s') σ G (upd H p o) := by
  obtain ⟨s1, e1, hg, h0, m0, hi⟩ := r.hd ⟨s, hs, hm, hp⟩
  rw [hs] at e1
  cases e1
  have il : i < ρ.length := (List.getElem?_eq_some_iff.mp hs).1
  refine ⟨by rw [List.length_set]; exact r.len, fun b x e => ?_, fun b x e => ?_, r.g0, fun j t ht => ?_, fun j k q h1 h2 => ?_⟩
  · rw [upd_ne (ne_of_none e hg)]; exact r.gh b x e
  · rw [upd_ne (ne_of_none e h0)]; exact r.h0 b x e
  · by_cases hj : i = j
    · subst hj
      rw [List.getElem?_set_self il] at ht
      cases ht
      exact So.ofMut ⟨p, hp, hg, h0, m, fun z => hi (by rw [← hio]; exact z)⟩
    · rw [List.getElem?_set_ne hj] at ht
      have q := r.sl j t ht
      by_cases hmt : t.mu = true
      · obtain ⟨q1, z1, z2, z3, z4, z5⟩ := So.mut hmt q
        have ne : q1 ≠ p := fun z => hj (r.ap i j p ⟨s, hs, hm, hp⟩ ⟨t, ht, hmt, z ▸ z1⟩)
        exact So.ofMut ⟨q1, z1, z2, z3, z4.mono (Same.refl G) (upd_ne ne), z5⟩
      · cases t with
        | un => trivial
        | val d => exact q
        | _ => exact absurd rfl hmt
  · have back : ∀ j, Hd (ρ.set i s') σ j q → Hd ρ σ j q := fun j ⟨t, e, m', es⟩ => by
      by_cases hj : i = j
      · subst hj
        exact ⟨s, hs, hm, es⟩
      · rw [List.getElem?_set_ne hj] at e
        exact ⟨t, e, m', es⟩
    exact r.ap j k q (back j h1) (back k h2)
/-- the slot of an own list is read: frozen -/
theorem Rel.own (r : Rel F ρ σ G H) {i : Nat} {ds : List D} (hs : ρ[i]? = some (.own ds)) : ∃ p vs, σ[i]? = some (some (.ref p)) ∧ H p = some (.lst vs) ∧ Dqs F.K G vs ds ∧ G p = none ∧
    Same G (upd G p (.lst vs)) ∧ Rel F (ρ.set i (.val (.lst ds))) σ (upd G p (.lst vs)) H ∧ Dq F.K (upd G p (.lst vs)) (.ref p) (.lst ds) := by
  obtain ⟨p, e1, e2, e3, ⟨vs, e4, e5⟩, _⟩ := So.mut rfl (r.sl i _ hs)
  have sm : Same G (upd G p (.lst vs)) := same_upd e2
  have dq : Dq F.K (upd G p (.lst vs)) (.ref p) (.lst ds) := .lst upd_same (e5.mono sm)
  refine ⟨p, vs, e1, e4, e5, e2, sm, ?_, dq⟩
  have il : i < ρ.length := (List.getElem?_eq_some_iff.mp hs).1
  refine ⟨by rw [List.length_set]; exact r.len, fun b x e => ?_, r.h0, fun a x e => ?_, fun j t ht => ?_, fun j k q h1 h2 => ?_⟩
  · unfold upd at e
    split at e
    · rename_i hb; subst hb; rw [e4]; exact e
    · exact r.gh b x e
  · unfold upd at e
    split at e
    · rename_i hb; subst hb; exact .inr e3
    · exact r.g0 a x e
  · by_cases hj : i = j
    · subst hj
      rw [List.getElem?_set_self il] at ht
      cases ht
      exact ⟨.ref p, e1, dq⟩
    · rw [List.getElem?_set_ne hj] at ht
      have q := r.sl j t ht
      by_cases hmt : t.mu = true
      · obtain ⟨q1, z1, z2, z3, z4, z5⟩ := So.mut hmt q
        have ne : q1 ≠ p := fun z => hj (r.ap i j p ⟨_, hs, rfl, e1⟩ ⟨t, ht, hmt, z ▸ z1⟩)
        exact So.ofMut ⟨q1, z1, (upd_ne ne).trans z2, z3, z4.mono sm rfl, z5⟩
      · cases t with
        | un => trivial
        | val d =>
          obtain ⟨v, e1, e2⟩ := q
          exact ⟨v, e1, e2.mono sm⟩
        | _ => exact absurd rfl hmt
  · have back : ∀ j, Hd (ρ.set i (.val (.lst ds))) σ j q → Hd ρ σ j q := fun j ⟨t, e, m', es⟩ => by
      by_cases hj : i = j
      · subst hj
        rw [List.getElem?_set_self il] at e
        cases e
        cases m'
      · rw [List.getElem?_set_ne hj] at e
        exact ⟨t, e, m', es⟩
    exact r.ap j k q (back j h1) (back k h2)
end
end PF
end
section
namespace PF
open PySem PySem.Spec PyProof.Rows L2

/-! outcomes -/
inductive R (α : Type) where
  | ok (a : α) (ρ : Rho) | exc (c : Nat) (ρ : Rho) | bad
def R.bind {α β : Type} (r : R α) (k : α → Rho → R β) : R β := match r with
  | .ok a ρ => k a ρ
  | .exc c ρ => .exc c ρ
  | .bad => .bad
/-- what an expression yields: data, or a new mutable thing that nobody else holds -/
inductive Vl where
  | d (x : D) | own (ds : List D) | dct (kvs : List (Key × D)) | dtp (kvs : List (List Key × D))
def Vl.sl : Vl → Sl
  | .d x => .val x
  | .own ds => .own ds
  | .dct k => .dct k
  | .dtp k => .dtp k
def Vl.dat : Vl → Option D
  | .d x => some x
  | .own ds => some (.lst ds)
  | _ => none
def asD (r : R Vl) : R D := r.bind fun v ρ => match v.dat with
  | some d => .ok d ρ
  | none => .bad

/-- the wishes for exceptions, by the class's number -/
structure Wi where
  ec : Nat → Addr
  W : WX

def Nv (F : Fx) (ρ : Rho) (σ : L2.St) (G H : Hp) (v : V) : Vl → Prop
  | .d x => Dq F.K G v x
  | .own ds => ∃ p, v = .ref p ∧ G p = none ∧ F.H0 p = none ∧ (∀ i, ¬ Hd ρ σ i p) ∧ Mo F.K G H p (.own ds)
  | .dct ds => ∃ p, v = .ref p ∧ G p = none ∧ F.H0 p = none ∧ (∀ i, ¬ Hd ρ σ i p) ∧ Mo F.K G H p (.dct ds)
  | .dtp ds => ∃ p, v = .ref p ∧ G p = none ∧ F.H0 p = none ∧ (∀ i, ¬ Hd ρ σ i p) ∧ Mo F.K G H p (.dtp ds)

section
variable {α β : Type}
/-- an outcome, with what holds of a value at its end -/
def Po (F : Fx) (w : Wi) (σ : L2.St) (G : Hp) (N : Rho → Hp → Hp → V → α → Prop) (Q : VK) : R α → Prop
  | .ok a ρ => ∀ v G' H', Same G G' → Rel F ρ σ G' H' → N ρ G' H' v a → Q v H'
  | .exc c ρ => ∀ G' H', Same G G' → Rel F ρ σ G' H' → w.W (.ref (w.ec c)) none σ H'
  | .bad => False
theorem Po.mono {F : Fx} {w : Wi} {σ : L2.St} {G G' : Hp} {N : Rho → Hp → Hp → V → α → Prop} {Q : VK} (e : Same G G') : ∀ {r : R α}, Po F w σ G N Q r → Po F w σ G' N Q r
  | .ok _ _, h => fun v G2 H2 s => h v G2 H2 (e.trans s)
  | .exc _ _, h => fun G2 H2 s => h G2 H2 (e.trans s)
  | .bad, h => h
theorem Po.imp {F : Fx} {w : Wi} {σ : L2.St} {G : Hp} {N : Rho → Hp → Hp → V → α → Prop} {Q Q' : VK} (e : ∀ v H, Q v H → Q' v H) : ∀ {r : R α}, Po F w σ G N Q r → Po F w σ G N Q' r
  | .ok _ _, h => fun v G2 H2 s r n => e _ _ (h v G2 H2 s r n)
  | .exc _ _, h => h
  | .bad, h => h
/-- the part that comes first -/
theorem Po.bind {F : Fx} {w : Wi} {σ : L2.St} {G : Hp} {N : Rho → Hp → Hp → V → α → Prop} {M : Rho → Hp → Hp → V → β → Prop} {Q : VK} {k : α → Rho → R β} : ∀ {r : R α}, Po F w σ G M Q (r.bind k) →
    Po F w σ G N (fun v H' => ∃ a ρ' G', Same G G' ∧ Rel F ρ' σ G' H' ∧ N ρ' G' H' v a ∧ Po F w σ G' M Q (k a ρ')) r
  | .ok a ρ, h => fun v G2 H2 s r n => ⟨a, ρ, G2, s, r, n, Po.mono s h⟩
  | .exc _ _, h => h
  | .bad, h => h
end
abbrev NdR (F : Fx) : Rho → Hp → Hp → V → D → Prop := fun _ G _ v d => Dq F.K G v d
abbrev NvR (F : Fx) (σ : L2.St) : Rho → Hp → Hp → V → Vl → Prop := fun ρ G H v a => Nv F ρ σ G H v a
def tE (F : Fx) (w : Wi) (f : Rho → R D) : TE := fun σ H Q => ∃ ρ G, Rel F ρ σ G H ∧ Po F w σ G (NdR F) Q (f ρ)
def tV (F : Fx) (w : Wi) (f : Rho → R Vl) : TE := fun σ H Q => ∃ ρ G, Rel F ρ σ G H ∧ Po F w σ G (NvR F σ) Q (f ρ)
/-- a test's outcome -/
def Pt (F : Fx) (w : Wi) (σ : L2.St) (G : Hp) (Q : Bool → Hp → Prop) : R Bool → Prop
  | .ok b ρ => ∀ G' H', Same G G' → Rel F ρ σ G' H' → Q b H'
  | .exc c ρ => ∀ G' H', Same G G' → Rel F ρ σ G' H' → w.W (.ref (w.ec c)) none σ H'
  | .bad => False
def tT (F : Fx) (w : Wi) (f : Rho → R Bool) : TT := fun σ H Q => ∃ ρ G, Rel F ρ σ G H ∧ Pt F w σ G Q (f ρ)
theorem Pt.mono {F : Fx} {w : Wi} {σ : L2.St} {G G' : Hp} {Q : Bool → Hp → Prop} (e : Same G G') : ∀ {r : R Bool}, Pt F w σ G Q r → Pt F w σ G' Q r
  | .ok _ _, h => fun G2 H2 s => h G2 H2 (e.trans s)
  | .exc _ _, h => fun G2 H2 s => h G2 H2 (e.trans s)
  | .bad, h => h
theorem Pt.bind {F : Fx} {w : Wi} {σ : L2.St} {G : Hp} {Q : Bool → Hp → Prop} {k : Bool → Rho → R Bool} : ∀ {r : R Bool}, Pt F w σ G Q (r.bind k) →
    Pt F w σ G (fun b H' => ∃ ρ' G', Same G G' ∧ Rel F ρ' σ G' H' ∧ Pt F w σ G' Q (k b ρ')) r
  | .ok a ρ, h => fun G2 H2 s r => ⟨ρ, G2, s, r, Pt.mono s h⟩
  | .exc _ _, h => h
  | .bad, h => h
/-- a test, then a value -/
theorem Po.test {F : Fx} {w : Wi} {σ : L2.St} {G : Hp} {β : Type} {M : Rho → Hp → Hp → V → β → Prop} {Q : VK} {k : Bool → Rho → R β} : ∀ {r : R Bool}, Po F w σ G M Q (r.bind k) →
    Pt F w σ G (fun b H' => ∃ ρ' G', Same G G' ∧ Rel F ρ' σ G' H' ∧ Po F w σ G' M Q (k b ρ')) r
  | .ok a ρ, h => fun G2 H2 s r => ⟨ρ, G2, s, r, Po.mono s h⟩
  | .exc _ _, h => h
  | .bad, h => h
theorem Pt.imp {F : Fx} {w : Wi} {σ : L2.St} {G : Hp} {Q Q' : Bool → Hp → Prop} (e : ∀ v H, Q v H → Q' v H) : ∀ {r : R Bool}, Pt F w σ G Q r → Pt F w σ G Q' r
  | .ok _ _, h => fun G2 H2 s r => e _ _ (h G2 H2 s r)
  | .exc _ _, h => h
  | .bad, h => h
/-- a value, then a test -/
theorem Pt.val {F : Fx} {w : Wi} {σ : L2.St} {G : Hp} {α : Type} {N : Rho → Hp → Hp → V → α → Prop} {Q : Bool → Hp → Prop} {k : α → Rho → R Bool} : ∀ {r : R α}, Pt F w σ G Q (r.bind k) →
    Po F w σ G N (fun v H' => ∃ a ρ' G', Same G G' ∧ Rel F ρ' σ G' H' ∧ N ρ' G' H' v a ∧ Pt F w σ G' Q (k a ρ')) r
  | .ok a ρ, h => fun v G2 H2 s r n => ⟨a, ρ, G2, s, r, n, Pt.mono s h⟩
  | .exc _ _, h => h
  | .bad, h => h

/-! the judgements -/
structure SV (X : Cx) (w : Wi) (e : Expr) (f : Rho → R Vl) : Prop where
  r : ∀ F : Fx, F.K = X.K → PE X e (tV F w f)
structure SE (X : Cx) (w : Wi) (e : Expr) (f : Rho → R D) : Prop where
  r : ∀ F : Fx, F.K = X.K → PE X e (tE F w f)
structure ST (X : Cx) (w : Wi) (e : Expr) (f : Rho → R Bool) : Prop where
  r : ∀ F : Fx, F.K = X.K → PT X e (tT F w f)
theorem pe_weak {X : Cx} {e : Expr} {t t' : TE} (h : PE X e t) (i : ∀ σ H Q, t' σ H Q → t σ H Q) : PE X e t' := ⟨fun pins s σ H Q I q => h.run pins s σ H Q I (i σ H Q q)⟩
theorem pt_weak {X : Cx} {e : Expr} {t t' : TT} (h : PT X e t) (i : ∀ σ H Q, t' σ H Q → t σ H Q) : PT X e t' := ⟨fun pins s σ H Q I q => h.run pins s σ H Q I (i σ H Q q)⟩
theorem pw_weak {X : Cx} {e : Expr} {t t' : TT} (h : PW X e t) (i : ∀ σ H Q, t' σ H Q → t σ H Q) : PW X e t' := ⟨fun u pins s σ H Q I q => h.run u pins s σ H Q I (i σ H Q q)⟩

section
variable {F : Fx} {ρ : Rho} {σ : L2.St} {G H : Hp}
/-- a new mutable thing at a free place -/
theorem nv_lst (r : Rel F ρ σ G H) {p : Addr} {vs : List V} {ds : List D} (h : H p = none) (hd : Dqs F.K G vs ds) : Rel F ρ σ G (upd H p (.lst vs)) ∧ Nv F ρ σ G (upd H p (.lst vs)) (.ref p) (.own ds) := by
  refine ⟨r.laidM h, p, rfl, r.gh.free h, r.h0.free h, fun i hi => ?_, vs, upd_same, hd⟩
  obtain ⟨s, _, _, _, m, _⟩ := r.hd hi
  obtain ⟨o, e⟩ := m.some
  rw [h] at e
  cases e
theorem nv_dK (r : Rel F ρ σ G H) {p : Addr} {ws : List (Key × V)} {kvs : List (Key × D)} (h : H p = none) (hd : Prs (fun (a : Key × V) (b : Key × D) => a.1 = b.1 ∧ Dq F.K G a.2 b.2) ws kvs) :
    Rel F ρ σ G (upd H p (.dK ws)) ∧ Nv F ρ σ G (upd H p (.dK ws)) (.ref p) (.dct kvs) := by
  refine ⟨r.laidM h, p, rfl, r.gh.free h, r.h0.free h, fun i hi => ?_, ws, upd_same, hd⟩
  obtain ⟨s, _, _, _, m, _⟩ := r.hd hi
  obtain ⟨o, e⟩ := m.some
  rw [h] at e
  cases e
theorem nv_dT (r : Rel F ρ σ G H) {p : Addr} (h : H p = none) : Rel F ρ σ G (upd H p (.dT [])) ∧ Nv F ρ σ G (upd H p (.dT [])) (.ref p) (.dtp []) := by
  refine ⟨r.laidM h, p, rfl, r.gh.free h, r.h0.free h, fun i hi => ?_, [], upd_same, .nil⟩
  obtain ⟨s, _, _, _, m, _⟩ := r.hd hi
  obtain ⟨o, e⟩ := m.some
  rw [h] at e
  cases e
theorem nv_tup (r : Rel F ρ σ G H) {p : Addr} {vs : List V} {ds : List D} (h : H p = none) (hd : Dqs F.K G vs ds) :
    Same G (upd G p (.tup vs)) ∧ Rel F ρ σ (upd G p (.tup vs)) (upd H p (.tup vs)) ∧ Dq F.K (upd G p (.tup vs)) (.ref p) (.tup ds) := by
  obtain ⟨s, r'⟩ := r.laid (o := .tup vs) h
  exact ⟨s, r', .tup (.inl (.inl upd_same)) (hd.mono s)⟩
/-- a new thing, taken as data -/
theorem nv_dat (r : Rel F ρ σ G H) {v : V} {a : Vl} {d : D} (n : Nv F ρ σ G H v a) (e : a.dat = some d) : ∃ G', Same G G' ∧ Rel F ρ σ G' H ∧ Dq F.K G' v d := by
  cases a with
  | d x =>
    have e := Option.some.inj e
    subst e
    exact ⟨G, Same.refl G, r, n⟩
  | own ds =>
    have e := Option.some.inj e
    subst e
    obtain ⟨p, rfl, hg, h0, hn, vs, hp, hd⟩ := n
    obtain ⟨s, r'⟩ := r.freeze hp hg h0 hn
    exact ⟨_, s, r', .lst upd_same (hd.mono s)⟩
  | dct _ => cases e
  | dtp _ => cases e
end
section
variable {X : Cx} {w : Wi} {e : Expr}
theorem SV.se {f : Rho → R Vl} (h : SV X w e f) : SE X w e (fun ρ => asD (f ρ)) := ⟨fun F hF => pe_weak (h.r F hF) fun σ H Q ⟨ρ, G, r, q⟩ => ⟨ρ, G, r,
  (Po.bind q).imp fun v H1 ⟨a, ρ1, G1, s1, r1, n1, q1⟩ => by
    cases e1 : a.dat with
    | none => rw [e1] at q1; exact q1.elim
    | some d =>
      rw [e1] at q1
      obtain ⟨G2, s2, r2, dq⟩ := nv_dat r1 n1 e1
      exact q1 v G2 H1 s2 r2 dq⟩⟩
def ofD (f : Rho → R D) : Rho → R Vl := fun ρ => (f ρ).bind fun d ρ => .ok (.d d) ρ
theorem SE.sv {f : Rho → R D} (h : SE X w e f) : SV X w e (ofD f) := ⟨fun F hF => pe_weak (h.r F hF) fun σ H Q ⟨ρ, G, r, q⟩ => ⟨ρ, G, r,
  (Po.bind q).imp fun v H1 ⟨a, ρ1, G1, s1, r1, n1, q1⟩ => q1 v G1 H1 (Same.refl _) r1 n1⟩⟩
end

/-! operators: a pure answer over data -/
/-- what a pure operator hands back, in the state in which it stands -/
def Pu (F : Fx) (ρ : Rho) (σ : L2.St) (G H : Hp) (Q : VK) : Option Vl → Prop
  | none => False
  | some a => ∀ v G' H', Same G G' → Rel F ρ σ G' H' → Nv F ρ σ G' H' v a → Q v H'
theorem Pu.d {F : Fx} {ρ : Rho} {σ : L2.St} {G H : Hp} {Q : VK} {x : D} {v : V} (r : Rel F ρ σ G H) (h : Pu F ρ σ G H Q (some (.d x))) (n : Dq F.K G v x) : Q v H := h v G H (Same.refl _) r n
def OpD (X : Cx) (f : Value → Value → Sem Value) (op : D → D → Option Vl) : Prop :=
  ∃ r : R2, OpR X f r ∧ ∀ (F : Fx), F.K = X.K → ∀ (ρ : Rho) (σ : L2.St) (G H : Hp) (Q : VK) (v1 v2 : V) (d1 d2 : D), Rel F ρ σ G H → Dq F.K G v1 d1 → Dq F.K G v2 d2 → Pu F ρ σ G H Q (op d1 d2) → r v1 v2 H Q
def lift (op : D → D → Option Vl) (x y : D) (ρ : Rho) : R Vl := match op x y with
  | some a => .ok a ρ
  | none => .bad
theorem Po.lift {F : Fx} {w : Wi} {ρ : Rho} {σ : L2.St} {G H : Hp} {Q : VK} {op : D → D → Option Vl} {x y : D} (h : Po F w σ G (NvR F σ) Q (lift op x y ρ)) : Pu F ρ σ G H Q (op x y) := by
  unfold PF.lift at h
  cases e : op x y with
  | none => rw [e] at h; exact h
  | some a => rw [e] at h; exact h
section
variable {X : Cx} {w : Wi} {a b c : Expr} {f g k : Rho → R D} {pos : Pos}
def bin2 (op : D → D → Option Vl) (f g : Rho → R D) : Rho → R Vl := fun ρ => (f ρ).bind fun x ρ1 => (g ρ1).bind fun y ρ2 => lift op x y ρ2
theorem bin2_t {F : Fx} {op : D → D → Option Vl} {r : R2} (hF : F.K = X.K) (hr : ∀ (F : Fx), F.K = X.K → ∀ (ρ : Rho) (σ : L2.St) (G H : Hp) (Q : VK) (v1 v2 : V) (d1 d2 : D), Rel F ρ σ G H → Dq F.K G v1 d1 → Dq F.K G v2 d2 → Pu F ρ σ G H Q (op d1 d2) → r v1 v2 H Q)
    (σ : L2.St) (H : Hp) (Q : VK) (h : tV F w (bin2 op f g) σ H Q) : tOp r (tE F w f) (tE F w g) σ H Q := by
  obtain ⟨ρ, G, rel, q⟩ := h
  refine ⟨ρ, G, rel, (Po.bind q).imp fun v1 H1 ⟨d1, ρ1, G1, s1, r1, n1, q1⟩ => ⟨ρ1, G1, r1, (Po.bind q1).imp fun v2 H2 ⟨d2, ρ2, G2, s2, r2, n2, q2⟩ => ?_⟩⟩
  exact hr F hF ρ2 σ G2 H2 Q v1 v2 d1 d2 r2 (n1.mono s2) n2 q2.lift
theorem sv_bin {o : Operator} {op : D → D → Option Vl} (h : OpD X (binaryOp o) op) (ha : SE X w a f) (hb : SE X w b g) : SV X w (.BinOp a o b pos) (bin2 op f g) := by
  obtain ⟨r, hr, hq⟩ := h
  exact ⟨fun F hF => pe_weak (pe_op hr (ha.r F hF) (hb.r F hF)) (bin2_t hF hq)⟩
theorem sv_cmp {o : CmpOp} {op : D → D → Option Vl} (h : OpD X (compareOp o) op) (ha : SE X w a f) (hb : SE X w b g) (hm : behindInMarks o b = false) : SV X w (.Compare a [o] [b] pos) (bin2 op f g) := by
  obtain ⟨r, hr, hq⟩ := h
  exact ⟨fun F hF => pe_weak (pe_cmpR hr (ha.r F hF) (hb.r F hF) hm) (bin2_t hF hq)⟩
/-- the truth of what was handed back -/
def truV (v : Vl) (ρ : Rho) : R Bool := match v with
  | .d (.bool b) => .ok b ρ
  | _ => .bad
def tru (r : R Vl) : R Bool := r.bind truV
theorem tru_bl {F : Fx} {w : Wi} {ρ : Rho} {σ : L2.St} {G H : Hp} {Q : Bool → Hp → Prop} {a : Vl} {v : V} (rel : Rel F ρ σ G H) (n : Nv F ρ σ G H v a) (q : Pt F w σ G Q (truV a ρ)) : ∃ k, v = .bl k ∧ Q k H := by
  cases a with
  | d x =>
    cases x with
    | bool b =>
      cases n
      exact ⟨b, rfl, q G H (Same.refl _) rel⟩
    | _ => exact q.elim
  | own _ => exact q.elim
  | dct _ => exact q.elim
  | dtp _ => exact q.elim
theorem st_cmp {o : CmpOp} {op : D → D → Option Vl} (h : OpD X (compareOp o) op) (ha : SE X w a f) (hb : SE X w b g) (hm : behindInMarks o b = false) : ST X w (.Compare a [o] [b] pos) (fun ρ => tru (bin2 op f g ρ)) := by
  obtain ⟨r, hr, hq⟩ := h
  exact ⟨fun F hF => pt_weak (pt_cmpR hr (ha.r F hF) (hb.r F hF) hm) fun σ H Q ⟨ρ, G, rel, q⟩ => bin2_t hF hq σ H _ ⟨ρ, G, rel, (Pt.val q).imp fun v H1 ⟨x, ρ1, G1, s1, r1, n1, q1⟩ => tru_bl r1 n1 q1⟩⟩
/-- the truth of a value -/
theorem st_of {e : Expr} {f : Rho → R Vl} (h : SV X w e f) (he : ∀ whole, PySem.isTrue e X.env whole = (do let v ← whole; standAt e.pos; holding [v] (truthy v))) : ST X w e (fun ρ => tru (f ρ)) :=
  ⟨fun F hF => pt_weak (pt_val (h.r F hF) he) fun σ H Q ⟨ρ, G, rel, q⟩ => ⟨ρ, G, rel, (Pt.val q).imp fun v H1 ⟨x, ρ1, G1, s1, r1, n1, q1⟩ => tru_bl r1 n1 q1⟩⟩
/-- a < b < c -/
def chn (op op' : D → D → Option Vl) (f g k : Rho → R D) : Rho → R Vl := fun ρ => (f ρ).bind fun x ρ1 => (g ρ1).bind fun y ρ2 => (tru (lift op x y ρ2)).bind fun t ρ3 => if t = true then (k ρ3).bind fun z ρ4 => lift op' y z ρ4 else .ok (.d (.bool false)) ρ3
theorem chn_t {F : Fx} {op op' : D → D → Option Vl} {r r' : R2} (hF : F.K = X.K) (hr : ∀ (F : Fx), F.K = X.K → ∀ (ρ : Rho) (σ : L2.St) (G H : Hp) (Q : VK) (v1 v2 : V) (d1 d2 : D), Rel F ρ σ G H → Dq F.K G v1 d1 → Dq F.K G v2 d2 → Pu F ρ σ G H Q (op d1 d2) → r v1 v2 H Q)
    (hr' : ∀ (F : Fx), F.K = X.K → ∀ (ρ : Rho) (σ : L2.St) (G H : Hp) (Q : VK) (v1 v2 : V) (d1 d2 : D), Rel F ρ σ G H → Dq F.K G v1 d1 → Dq F.K G v2 d2 → Pu F ρ σ G H Q (op' d1 d2) → r' v1 v2 H Q)
    (σ : L2.St) (H : Hp) (Q : VK) (h : tV F w (chn op op' f g k) σ H Q) : tChain r r' (tE F w f) (tE F w g) (tE F w k) σ H Q := by
  obtain ⟨ρ, G, rel, q⟩ := h
  refine ⟨ρ, G, rel, (Po.bind q).imp fun v1 H1 ⟨d1, ρ1, G1, s1, r1, n1, q1⟩ => ⟨ρ1, G1, r1, (Po.bind q1).imp fun v2 H2 ⟨d2, ρ2, G2, s2, r2, n2, q2⟩ => ?_⟩⟩
  refine hr F hF ρ2 σ G2 H2 _ v1 v2 d1 d2 r2 (n1.mono s2) n2 ?_
  cases e : op d1 d2 with
  | none =>
    unfold PF.lift at q2
    rw [e] at q2
    exact q2.elim
  | some a =>
    intro v3 G3 H3 s3 r3 n3
    unfold PF.lift at q2
    rw [e] at q2
    have q3 : Pt F w σ G3 _ (truV a ρ2) := Po.test (Po.mono s3 q2)
    obtain ⟨k', e3, ρ4, G4, s4, r4, q4⟩ := tru_bl r3 n3 q3
    refine ⟨k', e3, ?_⟩
    cases k' with
    | false =>
      rw [if_neg Bool.false_ne_true] at q4 ⊢
      exact q4 _ G4 H3 (Same.refl _) r4 (.bl false)
    | true =>
      rw [if_pos rfl] at q4 ⊢
      exact ⟨ρ4, G4, r4, (Po.bind q4).imp fun v5 H5 ⟨d5, ρ5, G5, s5, r5, n5, q5⟩ => hr' F hF ρ5 σ G5 H5 Q v2 v5 d2 d5 r5 ((n2.mono (s3.trans s4)).mono s5) n5 q5.lift⟩
theorem sv_chain {o o' : CmpOp} {op op' : D → D → Option Vl} (h : OpD X (compareOp o) op) (h' : OpD X (compareOp o') op') (ha : SE X w a f) (hb : SE X w b g) (hc : SE X w c k) (hm : lastMarks [o, o'] [b, c] = false) :
    SV X w (.Compare a [o, o'] [b, c] pos) (chn op op' f g k) := by
  obtain ⟨r, hr, hq⟩ := h
  obtain ⟨r', hr', hq'⟩ := h'
  exact ⟨fun F hF => pe_weak (pe_chain hr hr' (ha.r F hF) (hb.r F hF) (hc.r F hF) hm) (chn_t hF hq hq')⟩
theorem st_chain {o o' : CmpOp} {op op' : D → D → Option Vl} (h : OpD X (compareOp o) op) (h' : OpD X (compareOp o') op') (ha : SE X w a f) (hb : SE X w b g) (hc : SE X w c k) (hm : lastMarks [o, o'] [b, c] = false) :
    ST X w (.Compare a [o, o'] [b, c] pos) (fun ρ => tru (chn op op' f g k ρ)) := by
  obtain ⟨r, hr, hq⟩ := h
  obtain ⟨r', hr', hq'⟩ := h'
  exact ⟨fun F hF => pt_weak (pt_chain hr hr' (ha.r F hF) (hb.r F hF) (hc.r F hF) hm) fun σ H Q ⟨ρ, G, rel, q⟩ => chn_t hF hq hq' σ H _ ⟨ρ, G, rel, (Pt.val q).imp fun v H1 ⟨x, ρ1, G1, s1, r1, n1, q1⟩ => tru_bl r1 n1 q1⟩⟩
end
end PF
end
section
namespace PF
open PySem PySem.Spec PyProof.Rows L2

def lim : Nat := 100000
theorem lim_le {n : Nat} (h : n ≤ lim) : n ≤ sizeLine := Nat.le_trans h (by decide)
theorem lim_lt {n : Nat} (h : n ≤ lim) : n < sizeLine := Nat.lt_of_le_of_lt h (by decide)
/-- a test, then data -/
def ift {α : Type} (b : Bool) (x : Option α) : Option α := match b with
  | true => x
  | false => none
theorem Pu.ift {F : Fx} {ρ : Rho} {σ : L2.St} {G H : Hp} {Q : VK} {b : Bool} {a : Option Vl} (h : Pu F ρ σ G H Q (ift b a)) : b = true ∧ Pu F ρ σ G H Q a := by
  cases b with
  | true => exact ⟨rfl, h⟩
  | false => exact h.elim

def addD : D → D → Option Vl
  | .int i, .int j => some (.d (.int (i + j)))
  | .str x, .str y => ift (decide (x.length + y.length ≤ lim)) (some (.d (.str (x ++ y))))
  | .tup xs, .tup ys => ift (decide (xs.length + ys.length ≤ lim)) (some (.d (.tup (xs ++ ys))))
  | .lst xs, .lst ys => ift (decide (xs.length + ys.length ≤ lim)) (some (.own (xs ++ ys)))
  | _, _ => none
def subD : D → D → Option Vl
  | .int i, .int j => some (.d (.int (i - j)))
  | _, _ => none
/-- an int of fewer than 64 bits -/
def smI (i : Int) : Bool := decide (i.natAbs < 18446744073709551616)
theorem smI_ok {i : Int} (h : smI i = true) : -(2 ^ 64) < i ∧ i < 2 ^ 64 := by
  have h := of_decide_eq_true h
  have e : (2 : Int) ^ 64 = 18446744073709551616 := by decide
  rw [e]
  omega
def mulD : D → D → Option Vl
  | .int i, .int j => ift (smI i || smI j) (some (.d (.int (i * j))))
  | .lst xs, .int k => ift (decide (0 ≤ k) && decide (k ≤ 10000) && decide (xs.length ≤ 10)) (some (.own (List.replicate k.toNat xs).flatten))
  | .tup xs, .int k => ift (decide (2 ≤ k) && decide (k ≤ 1000) && decide (xs.length ≤ 1000) && !xs.isEmpty) (some (.d (.tup (List.replicate k.toNat xs).flatten)))
  | _, _ => none
def fdivD : D → D → Option Vl
  | .int i, .int j => ift (decide (0 < j) && decide (j < 1073741824)) (some (.d (.int (i / j))))
  | _, _ => none
def modD : D → D → Option Vl
  | .int i, .int j => ift (decide (0 < j)) (some (.d (.int (i % j))))
  | _, _ => none
def powD : D → D → Option Vl
  | .int i, .int j => ift (decide (0 ≤ j) && decide (j ≤ 1000) && smI i) (some (.d (.int (i ^ j.toNat))))
  | _, _ => none
def opD : Operator → D → D → Option Vl
  | .Add => addD
  | .Sub => subD
  | .Mult => mulD
  | .FloorDiv => fdivD
  | .Mod => modD
  | .Pow => powD
  | _ => fun _ _ => none
def eqG (x y : D) : Option Bool := ift (SeqAt.shaped x.py && SeqAt.shaped y.py) (some (PyData.eqv x.py y.py))
def bl (b : Option Bool) : Option Vl := b.map fun k => .d (.bool k)
def asInts : List D → Option (List Int)
  | [] => some []
  | .int i :: ds => (asInts ds).map (i :: ·)
  | _ :: _ => none
theorem asInts_ok : ∀ {ds : List D} {ns : List Int}, asInts ds = some ns → ds = ns.map D.int
  | [], _, h => by
    have h := Option.some.inj h
    subst h
    rfl
  | .int i :: ds, ns, h => by
    have h : (asInts ds).map (i :: ·) = some ns := h
    obtain ⟨ms, e, rfl⟩ := Option.map_eq_some_iff.mp h
    rw [asInts_ok e]
    rfl
  | .none :: _, _, h => by cases h
  | .bool _ :: _, _, h => by cases h
  | .str _ :: _, _, h => by cases h
  | .lst _ :: _, _, h => by cases h
  | .tup _ :: _, _, h => by cases h
  | .scr _ :: _, _, h => by cases h
def asBls : List D → Option (List Bool)
  | [] => some []
  | .bool i :: ds => (asBls ds).map (i :: ·)
  | _ :: _ => none
theorem asBls_ok : ∀ {ds : List D} {ns : List Bool}, asBls ds = some ns → ds = ns.map D.bool
  | [], _, h => by
    have h := Option.some.inj h
    subst h
    rfl
  | .bool i :: ds, ns, h => by
    have h : (asBls ds).map (i :: ·) = some ns := h
    obtain ⟨ms, e, rfl⟩ := Option.map_eq_some_iff.mp h
    rw [asBls_ok e]
    rfl
  | .none :: _, _, h => by cases h
  | .int _ :: _, _, h => by cases h
  | .str _ :: _, _, h => by cases h
  | .lst _ :: _, _, h => by cases h
  | .tup _ :: _, _, h => by cases h
  | .scr _ :: _, _, h => by cases h
def oneSign (x : Str) : Option Nat := match x.cps.toList with
  | [c] => some c
  | _ => none
theorem oneSign_ok {x : Str} {c : Nat} (h : oneSign x = some c) : x = ⟨#[c]⟩ := by
  obtain ⟨⟨l⟩⟩ := x
  unfold oneSign at h
  cases l with
  | nil => cases h
  | cons a r =>
    cases r with
    | nil =>
      have h : a = c := Option.some.inj h
      rw [h]
    | cons b r => cases h
/-- x in y -/
def inD : D → D → Option Bool
  | .int i, .tup ds => (asInts ds).map fun ns => decide (i ∈ ns)
  | .str x, .str z => (oneSign x).map fun c => decide (c ∈ z.cps.toList)
  | x, .lst ds => ift (SeqAt.shaped x.py && SeqAt.shaped (D.lst ds).py) (some ((D.pys ds).any fun z => PyData.eqv z x.py))
  | _, _ => none
def isD : D → D → Option Bool
  | .none, .none => some true
  | _, .none => some false
  | .bool a, .bool b => some (decide (a = b))
  | _, _ => none
def ordD (p : Int → Int → Bool) : D → D → Option Vl
  | .int i, .int j => some (.d (.bool (p i j)))
  | _, _ => none
def cmpD : CmpOp → D → D → Option Vl
  | .Eq => fun x y => bl (eqG x y)
  | .NotEq => fun x y => bl ((eqG x y).map (!·))
  | .Lt => ordD fun i j => decide (i < j)
  | .LtE => ordD fun i j => decide (i ≤ j)
  | .Gt => ordD fun i j => decide (j < i)
  | .GtE => ordD fun i j => decide (j ≤ i)
  | .Is => fun x y => bl (isD x y)
  | .IsNot => fun x y => bl ((isD x y).map (!·))
  | .In => fun x y => bl (inD x y)
  | .NotIn => fun x y => bl ((inD x y).map (!·))

section
variable {X : Cx}
theorem opd_none (f : Value → Value → Sem Value) : OpD X f fun _ _ => none := ⟨fun _ _ _ _ => False, fun _ _ _ _ _ _ _ _ _ _ _ _ h => h.elim, fun _ _ _ _ _ _ _ _ _ _ _ _ _ _ h => h⟩
theorem and2 {a b : Bool} (h : (a && b) = true) : a = true ∧ b = true := Bool.and_eq_true_iff.mp h
theorem mem_G {F : Fx} {ρ : Rho} {σ : L2.St} {G H : Hp} (r : Rel F ρ σ G H) {a : Addr} {xs : List V} (h : SqT F.K G a xs) : SqT F.K H a xs := seqT_mono r.gh h
/-- a tuple's slice or sum: a new tuple -/
theorem fin_tup {F : Fx} {ρ : Rho} {σ : L2.St} {G H : Hp} {Q : VK} {vs : List V} {ds : List D} (r : Rel F ρ σ G H) (hd : Dqs F.K G vs ds) (h : Pu F ρ σ G H Q (some (.d (.tup ds)))) : ∀ p, H p = none → Q (.ref p) (upd H p (.tup vs)) := fun p hp => by
  obtain ⟨s, r', n⟩ := nv_tup r hp hd
  exact h _ _ _ s r' n
theorem fin_lst {F : Fx} {ρ : Rho} {σ : L2.St} {G H : Hp} {Q : VK} {vs : List V} {ds : List D} (r : Rel F ρ σ G H) (hd : Dqs F.K G vs ds) (h : Pu F ρ σ G H Q (some (.own ds))) : ∀ p, H p = none → Q (.ref p) (upd H p (.lst vs)) := fun p hp => by
  obtain ⟨r', n⟩ := nv_lst r hp hd
  exact h _ _ _ (Same.refl _) r' n
theorem opd_add : OpD X (binaryOp .Add) addD := by
  refine ⟨_, (op_add (X := X)).or (op_add_str.or ((op_catA (X := X)).or op_cat)), fun F hF ρ σ G H Q v1 v2 d1 d2 r n1 n2 h => ?_⟩
  cases n1 with
  | int i =>
    cases n2 with
    | int j => exact .inl ⟨i, j, rfl, rfl, h.d r (.int _)⟩
    | _ => exact h.elim
  | str x =>
    cases n2 with
    | str y =>
      obtain ⟨c, h⟩ := h.ift
      exact .inr (.inl ⟨x, y, rfl, rfl, lim_le (of_decide_eq_true c), h.d r (.str _)⟩)
    | _ => exact h.elim
  | tup h1 m1 =>
    rename_i a xs ds
    cases n2 with
    | tup h2 m2 =>
      rename_i b ys es
      obtain ⟨c, h⟩ := h.ift
      have c := of_decide_eq_true c
      rw [← m1.length, ← m2.length] at c
      refine .inr (.inr (.inl ⟨a, b, xs, ys, rfl, rfl, hF ▸ mem_G r h1, hF ▸ mem_G r h2, lim_le c, fun e => ?_, fun _ e => ?_, fun _ _ => fin_tup r (m1.append m2) h⟩))
      · subst e
        cases m1
        exact h.d r (.tup h2 m2)
      · subst e
        cases m2
        rw [List.append_nil] at h
        exact h.d r (.tup h1 m1)
    | _ => exact h.elim
  | lst h1 m1 =>
    rename_i a xs ds
    cases n2 with
    | lst h2 m2 =>
      rename_i b ys es
      obtain ⟨c, h⟩ := h.ift
      have c := of_decide_eq_true c
      rw [← m1.length, ← m2.length] at c
      exact .inr (.inr (.inr ⟨a, b, xs, ys, rfl, rfl, r.gh _ _ h1, r.gh _ _ h2, lim_le c, fin_lst r (m1.append m2) h⟩))
    | _ => exact h.elim
  | _ => exact h.elim
theorem opd_sub : OpD X (binaryOp .Sub) subD := by
  refine ⟨_, op_sub (X := X), fun F hF ρ σ G H Q v1 v2 d1 d2 r n1 n2 h => ?_⟩
  cases n1 with
  | int i =>
    cases n2 with
    | int j => exact ⟨i, j, rfl, rfl, h.d r (.int _)⟩
    | _ => exact h.elim
  | _ => exact h.elim
theorem opd_mul : OpD X (binaryOp .Mult) mulD := by
  refine ⟨_, (op_mul (X := X)).or (op_rep.or op_repT), fun F hF ρ σ G H Q v1 v2 d1 d2 r n1 n2 h => ?_⟩
  cases n1 with
  | int i =>
    cases n2 with
    | int j =>
      obtain ⟨c, h⟩ := h.ift
      refine .inl ⟨i, j, rfl, rfl, ?_, h.d r (.int _)⟩
      cases e : smI i with
      | true => exact .inl (smI_ok e)
      | false =>
        rw [e, Bool.false_or] at c
        exact .inr (smI_ok c)
    | _ => exact h.elim
  | lst h1 m1 =>
    rename_i a xs ds
    cases n2 with
    | int k =>
      obtain ⟨c, h⟩ := h.ift
      obtain ⟨c, c3⟩ := and2 c
      obtain ⟨c1, c2⟩ := and2 c
      have c1 := of_decide_eq_true c1
      have c2 := of_decide_eq_true c2
      have c3 := of_decide_eq_true c3
      rw [← m1.length] at c3
      have e63 : (2 : Int) ^ 63 = 9223372036854775808 := by decide
      refine .inr (.inl ⟨a, k, xs, rfl, rfl, r.gh _ _ h1, by rw [e63]; omega, by rw [e63]; omega, lim_le ?_, fin_lst r (m1.rep _) h⟩)
      have : xs.length * k.toNat ≤ 10 * 10000 := Nat.mul_le_mul c3 (by omega)
      exact this
    | _ => exact h.elim
  | tup h1 m1 =>
    rename_i a xs ds
    cases n2 with
    | int k =>
      obtain ⟨c, h⟩ := h.ift
      obtain ⟨c, c4⟩ := and2 c
      obtain ⟨c, c3⟩ := and2 c
      obtain ⟨c1, c2⟩ := and2 c
      have c3 := of_decide_eq_true c3
      rw [← m1.length] at c3
      refine .inr (.inr ⟨a, k, xs, rfl, rfl, hF ▸ mem_G r h1, fun e => ?_, of_decide_eq_true c1, of_decide_eq_true c2, c3, fin_tup r (m1.rep _) h⟩)
      subst e
      cases m1
      cases c4
    | _ => exact h.elim
  | _ => exact h.elim
theorem opd_fdiv : OpD X (binaryOp .FloorDiv) fdivD := by
  refine ⟨_, op_fdiv (X := X), fun F hF ρ σ G H Q v1 v2 d1 d2 r n1 n2 h => ?_⟩
  cases n1 with
  | int i =>
    cases n2 with
    | int j =>
      obtain ⟨c, h⟩ := h.ift
      obtain ⟨c1, c2⟩ := and2 c
      exact ⟨i, j, rfl, rfl, ⟨of_decide_eq_true c1, of_decide_eq_true c2⟩, h.d r (.int _)⟩
    | _ => exact h.elim
  | _ => exact h.elim
theorem opd_mod : OpD X (binaryOp .Mod) modD := by
  refine ⟨_, op_mod (X := X), fun F hF ρ σ G H Q v1 v2 d1 d2 r n1 n2 h => ?_⟩
  cases n1 with
  | int i =>
    cases n2 with
    | int j =>
      obtain ⟨c, h⟩ := h.ift
      exact ⟨i, j, rfl, rfl, of_decide_eq_true c, h.d r (.int _)⟩
    | _ => exact h.elim
  | _ => exact h.elim
theorem opd_pow : OpD X (binaryOp .Pow) powD := by
  refine ⟨_, op_pow (X := X), fun F hF ρ σ G H Q v1 v2 d1 d2 r n1 n2 h => ?_⟩
  cases n1 with
  | int i =>
    cases n2 with
    | int j =>
      obtain ⟨c, h⟩ := h.ift
      obtain ⟨c, c3⟩ := and2 c
      obtain ⟨c1, c2⟩ := and2 c
      have c3 := of_decide_eq_true c3
      have c2 := of_decide_eq_true c2
      exact ⟨i, j, rfl, rfl, ⟨of_decide_eq_true c1, by omega, by have e : (2 : Nat) ^ 64 = 18446744073709551616 := by decide
                                                                 rw [e]; exact c3⟩, h.d r (.int _)⟩
    | _ => exact h.elim
  | _ => exact h.elim
theorem opd (o : Operator) : OpD X (binaryOp o) (opD o) := by
  cases o with
  | Add => exact opd_add
  | Sub => exact opd_sub
  | Mult => exact opd_mul
  | FloorDiv => exact opd_fdiv
  | Mod => exact opd_mod
  | Pow => exact opd_pow
  | _ => exact opd_none _

theorem Pu.bl {F : Fx} {ρ : Rho} {σ : L2.St} {G H : Hp} {Q : VK} {o : Option Bool} (r : Rel F ρ σ G H) (h : Pu F ρ σ G H Q (bl o)) : ∃ k, o = some k ∧ Q (.bl k) H := by
  cases o with
  | none => exact h.elim
  | some k => exact ⟨k, rfl, Pu.d r (show Pu F ρ σ G H Q (some (.d (.bool k))) from h) (.bl k)⟩
theorem Dq.toH {F : Fx} {ρ : Rho} {σ : L2.St} {G H : Hp} {v : V} {d : D} (r : Rel F ρ σ G H) (n : Dq F.K G v d) : Dq F.K H v d := n.mono r.gh
theorem ift_some {α : Type} {b : Bool} {x : Option α} {y : α} (h : PF.ift b x = some y) : b = true ∧ x = some y := by
  cases b with
  | true => exact ⟨rfl, h⟩
  | false => cases h
theorem cmd_eq (hu : X.A.units + 64 < cLine) : OpD X (compareOp .Eq) (cmpD .Eq) := by
  refine ⟨_, op_eqD hu, fun F hF ρ σ G H Q v1 v2 d1 d2 r n1 n2 h => ?_⟩
  obtain ⟨k, e, q⟩ := Pu.bl r h
  obtain ⟨c, e⟩ := ift_some e
  obtain ⟨c1, c2⟩ := and2 c
  have e := Option.some.inj e
  subst e
  exact ⟨_, _, hF ▸ (n1.toH r).dp, hF ▸ (n2.toH r).dp, c1, c2, q⟩
theorem cmd_ne (hu : X.A.units + 64 < cLine) : OpD X (compareOp .NotEq) (cmpD .NotEq) := by
  refine ⟨_, op_neD hu, fun F hF ρ σ G H Q v1 v2 d1 d2 r n1 n2 h => ?_⟩
  obtain ⟨k, e, q⟩ := Pu.bl r h
  obtain ⟨k', e0, rfl⟩ := Option.map_eq_some_iff.mp e
  obtain ⟨c, e1⟩ := ift_some e0
  obtain ⟨c1, c2⟩ := and2 c
  have e2 := Option.some.inj e1
  subst e2
  exact ⟨_, _, hF ▸ (n1.toH r).dp, hF ▸ (n2.toH r).dp, c1, c2, q⟩
theorem cmd_ord {o : CmpOp} {p : Int → Int → Bool} (h : OpR X (compareOp o) (rI0 fun i j => .bl (p i j))) : OpD X (compareOp o) (ordD p) := by
  refine ⟨_, h, fun F hF ρ σ G H Q v1 v2 d1 d2 r n1 n2 h => ?_⟩
  cases n1 with
  | int i =>
    cases n2 with
    | int j => exact ⟨i, j, rfl, rfl, h.d r (.bl _)⟩
    | _ => exact h.elim
  | _ => exact h.elim
def D.isNon : D → Bool
  | .none => true
  | _ => false
theorem Dq.nonIff {K : PySem.W.Frag} {G : Hp} {v : V} {d : D} (n : Dq K G v d) : decide (v = V.non) = d.isNon := by
  cases n <;> first | rfl | exact decide_eq_false (fun e => by cases e)
theorem isD_none : ∀ d : D, isD d .none = some d.isNon := by
  intro d
  cases d <;> rfl
theorem cmd_is : OpD X (compareOp .Is) (cmpD .Is) := by
  refine ⟨_, (op_isN (X := X)).or op_isBl, fun F hF ρ σ G H Q v1 v2 d1 d2 r n1 n2 h => ?_⟩
  obtain ⟨k, e, q⟩ := Pu.bl r h
  cases n2 with
  | non =>
    rw [isD_none] at e
    have e := Option.some.inj e
    refine .inl ⟨rfl, ?_⟩
    rw [n1.nonIff, e]
    exact q
  | bl b =>
    cases n1 with
    | bl a =>
      have e := Option.some.inj e
      exact .inr ⟨a, b, rfl, rfl, by rw [show decide (a = b) = k from e]; exact q⟩
    | _ => cases e
  | _ => cases n1 <;> cases e
theorem cmd_isnot : OpD X (compareOp .IsNot) (cmpD .IsNot) := by
  refine ⟨_, (op_notN (X := X)).or op_notBl, fun F hF ρ σ G H Q v1 v2 d1 d2 r n1 n2 h => ?_⟩
  obtain ⟨k, e, q⟩ := Pu.bl r h
  obtain ⟨k', e0, rfl⟩ := Option.map_eq_some_iff.mp e
  clear e
  have e := e0
  cases n2 with
  | non =>
    rw [isD_none] at e
    have e := Option.some.inj e
    refine .inl ⟨rfl, ?_⟩
    rw [n1.nonIff, e]
    exact q
  | bl b =>
    cases n1 with
    | bl a =>
      have e := Option.some.inj e
      exact .inr ⟨a, b, rfl, rfl, by rw [show decide (a = b) = k' from e]; exact q⟩
    | _ => cases e
  | _ => cases n1 <;> cases e
theorem flat_ints : ∀ ns : List Int, (ns.map V.int).all flatV = true
  | [] => rfl
  | n :: ns => by
    rw [List.map_cons, List.all_cons, flat_ints ns]
    rfl
theorem inV_ints (i : Int) : ∀ ns : List Int, inV (.int i) (ns.map V.int) = decide (i ∈ ns)
  | [] => by simp [inV]
  | n :: ns => by
    have ih := inV_ints i ns
    unfold inV at ih ⊢
    rw [List.map_cons, List.any_cons, ih]
    have e : eqV (.int n) (.int i) = decide (n = i) := by
      show (n == i) = decide (n = i)
      exact Bool.beq_eq_decide_eq n i
    rw [e]
    by_cases h : n = i
    · subst h
      simp
    · have h' : ¬ i = n := fun e => h e.symm
      simp [h, h']
theorem inD_lst {x : D} {ds : List D} : inD x (.lst ds) = PF.ift (SeqAt.shaped x.py && SeqAt.shaped (D.lst ds).py) (some ((D.pys ds).any fun z => PyData.eqv z x.py)) := by
  cases x <;> rfl
theorem cmd_inX {o : CmpOp} {neg : Bool → Bool} (hu : X.A.units + 65 < cLine)
    (h1 : OpR X (compareOp o) fun x y H Q => ∃ p xs, y = .ref p ∧ (SqL X.K H p xs ∨ SqT X.K H p xs) ∧ flatV x = true ∧ xs.all flatV = true ∧ Q (.bl (neg (inV x xs))) H)
    (h2 : OpR X (compareOp o) fun x y H Q => ∃ (c : Nat) (z : Str), x = .str ⟨#[c]⟩ ∧ y = .str z ∧ Q (.bl (neg (decide (c ∈ z.cps.toList)))) H)
    (h3 : OpR X (compareOp o) fun x y H Q => ∃ d ds, Dp X.K H x d ∧ Dp X.K H y (.list ds) ∧ SeqAt.shaped d = true ∧ SeqAt.shaped (.list ds) = true ∧ Q (.bl (neg (ds.any fun z => PyData.eqv z d))) H) :
    OpD X (compareOp o) fun x y => bl ((inD x y).map neg) := by
  refine ⟨_, h1.or (h2.or h3), fun F hF ρ σ G H Q v1 v2 d1 d2 r n1 n2 h => ?_⟩
  obtain ⟨k, e, q⟩ := Pu.bl r h
  obtain ⟨k', e0, rfl⟩ := Option.map_eq_some_iff.mp e
  clear e
  have e := e0
  cases n2 with
  | lst g2 m2 =>
    rw [inD_lst] at e
    obtain ⟨c, e⟩ := ift_some e
    obtain ⟨c1, c2⟩ := and2 c
    have e := Option.some.inj e
    subst e
    exact .inr (.inr ⟨_, _, hF ▸ (n1.toH r).dp, hF ▸ ((Dq.lst g2 m2).toH r).dp, c1, c2, q⟩)
  | tup g2 m2 =>
    cases n1 with
    | int i =>
      obtain ⟨ns, e1, e2⟩ := Option.map_eq_some_iff.mp e
      subst e2
      have e1 := asInts_ok e1
      subst e1
      have ev := m2.ints
      subst ev
      exact .inl ⟨_, _, rfl, .inr (hF ▸ mem_G r g2), rfl, flat_ints ns, by rw [inV_ints]; exact q⟩
    | _ => cases e
  | str z =>
    cases n1 with
    | str x =>
      obtain ⟨c, e1, e2⟩ := Option.map_eq_some_iff.mp e
      subst e2
      exact .inr (.inl ⟨c, z, by rw [oneSign_ok e1], rfl, q⟩)
    | _ => cases e
  | _ => cases n1 <;> cases e
theorem opr_ext {f : Value → Value → Sem Value} {r r' : R2} (h : OpR X f r) (e : ∀ x y H Q, r' x y H Q → r x y H Q) : OpR X f r' := fun pins s σ H x y v u Q I rx ry q => h pins s σ H x y v u Q I rx ry (e _ _ _ _ q)
theorem cmd_in (hu : X.A.units + 65 < cLine) : OpD X (compareOp .In) (cmpD .In) := by
  have h := cmd_inX (X := X) (o := .In) (neg := fun b => b) hu (opr_ext op_in_seq fun x y H Q ⟨p, xs, a, b, c, d, e⟩ => ⟨p, xs, a, b, c, d, e⟩) op_in_sign (op_inD hu)
  have e : (fun x y => bl ((inD x y).map fun b => b)) = cmpD .In := by
    funext x y
    show bl ((inD x y).map fun b => b) = bl (inD x y)
    cases inD x y <;> rfl
  rw [← e]
  exact h
theorem cmd_notin (hu : X.A.units + 65 < cLine) : OpD X (compareOp .NotIn) (cmpD .NotIn) :=
  cmd_inX (X := X) (o := .NotIn) (neg := fun b => !b) hu (opr_ext op_notIn_seq fun x y H Q ⟨p, xs, a, b, c, d, e⟩ => ⟨p, xs, a, b, c, d, e⟩) op_notIn_sign (op_notInD hu)
theorem cmd (hu : X.A.units + 65 < cLine) (o : CmpOp) : OpD X (compareOp o) (cmpD o) := by
  have hu' : X.A.units + 64 < cLine := Nat.lt_trans (Nat.lt_succ_self _) hu
  cases o with
  | Eq => exact cmd_eq hu'
  | NotEq => exact cmd_ne hu'
  | Lt => exact cmd_ord op_lt
  | LtE => exact cmd_ord op_le
  | Gt => exact cmd_ord op_gt
  | GtE => exact cmd_ord op_ge
  | Is => exact cmd_is
  | IsNot => exact cmd_isnot
  | In => exact cmd_in hu
  | NotIn => exact cmd_notin hu
end
end PF
end
section
namespace PF
open PySem PySem.Spec PyProof.Rows L2

/-! a mutable thing that stands in no slot, kept through a part by a narrower frame -/
def Fx.fr (F : Fx) (G : Hp) (D : Addr) (o : HO) : Fx := { F with H0 := upd F.H0 D o, G0 := G }
section
variable {F : Fx} {ρ ρ' : Rho} {σ σ' : L2.St} {G G' H H' : Hp} {D : Addr} {o : HO}
theorem Rel.fr (r : Rel F ρ σ G H) (hD : H D = some o) (hg : G D = none) (hn : ∀ i, ¬ Hd ρ σ i D) : Rel (F.fr G D o) ρ σ G H where
  len := r.len
  gh := r.gh
  h0 := fun b x e => by
    have e : upd F.H0 D o b = some x := e
    by_cases hb : b = D
    · rw [hb, upd_same] at e
      rw [hb, hD]
      exact e
    · rw [upd_ne hb] at e
      exact r.h0 b x e
  g0 := fun a x e => .inl e
  sl := fun i s hs => by
    have q := r.sl i s hs
    by_cases hm : s.mu = true
    · obtain ⟨p, e1, e2, e3, e4, e5⟩ := So.mut hm q
      have ne : p ≠ D := fun z => hn i ⟨s, hs, hm, z ▸ e1⟩
      exact So.ofMut ⟨p, e1, e2, (upd_ne ne).trans e3, e4, e5⟩
    · cases s with
      | un => trivial
      | val d => exact q
      | _ => exact absurd rfl hm
  ap := r.ap
theorem Rel.unfr (r0 : Rel F ρ σ G H) (hg : G D = none) (h0 : F.H0 D = none) (r : Rel (F.fr G D o) ρ' σ' G' H') : Rel F ρ' σ' G' H' ∧ H' D = some o ∧ G' D = none ∧ ∀ i, ¬ Hd ρ' σ' i D := by
  have hD : H' D = some o := r.h0 D o upd_same
  have z : ∀ a, (F.fr G D o).H0 a = none → F.H0 a = none := fun a e => by
    by_cases ha : a = D
    · rw [ha]; exact h0
    · exact (upd_ne (H := F.H0) (o := o) ha).symm.trans e
  have hG : G' D = none := by
    cases e : G' D with
    | none => rfl
    | some x =>
      rcases r.g0 D x e with q | q
      · have q : G D = some x := q
        rw [hg] at q; cases q
      · have q : upd F.H0 D o D = none := q
        rw [upd_same] at q; cases q
  refine ⟨⟨r.len, r.gh, fun b x e => ?_, fun a x e => ?_, fun i s hs => ?_, r.ap⟩, hD, hG, fun i hi => ?_⟩
  · refine r.h0 b x ?_
    show upd F.H0 D o b = some x
    rw [upd_ne (ne_of_none e h0)]
    exact e
  · rcases r.g0 a x e with q | q
    · exact r0.g0 a x q
    · exact .inr (z a q)
  · have q := r.sl i s hs
    by_cases hm : s.mu = true
    · obtain ⟨p, e1, e2, e3, e4, e5⟩ := So.mut hm q
      exact So.ofMut ⟨p, e1, e2, z p e3, e4, e5⟩
    · cases s with
      | un => trivial
      | val d => exact q
      | _ => exact absurd rfl hm
  · obtain ⟨s, e, e2, e3, _⟩ := r.hd hi
    have e3 : upd F.H0 D o D = none := e3
    rw [upd_same] at e3; cases e3
end

/-! arguments -/
def Pa (F : Fx) (w : Wi) (σ : L2.St) (G : Hp) (Q : List V → Hp → Prop) : R (List D) → Prop
  | .ok ds ρ => ∀ vs G' H', Same G G' → Rel F ρ σ G' H' → Dqs F.K G' vs ds → Q vs H'
  | .exc c ρ => ∀ G' H', Same G G' → Rel F ρ σ G' H' → w.W (.ref (w.ec c)) none σ H'
  | .bad => False
def tA (F : Fx) (w : Wi) (f : Rho → R (List D)) : TA := fun σ H Q => ∃ ρ G, Rel F ρ σ G H ∧ Pa F w σ G Q (f ρ)
theorem Pa.mono {F : Fx} {w : Wi} {σ : L2.St} {G G' : Hp} {Q : List V → Hp → Prop} (e : Same G G') : ∀ {r : R (List D)}, Pa F w σ G Q r → Pa F w σ G' Q r
  | .ok _ _, h => fun v G2 H2 s => h v G2 H2 (e.trans s)
  | .exc _ _, h => fun G2 H2 s => h G2 H2 (e.trans s)
  | .bad, h => h
theorem Pa.imp {F : Fx} {w : Wi} {σ : L2.St} {G : Hp} {Q Q' : List V → Hp → Prop} (e : ∀ v H, Q v H → Q' v H) : ∀ {r : R (List D)}, Pa F w σ G Q r → Pa F w σ G Q' r
  | .ok _ _, h => fun v G2 H2 s r n => e _ _ (h v G2 H2 s r n)
  | .exc _ _, h => h
  | .bad, h => h
/-- a value, then arguments -/
theorem Pa.val {F : Fx} {w : Wi} {σ : L2.St} {G : Hp} {α : Type} {N : Rho → Hp → Hp → V → α → Prop} {Q : List V → Hp → Prop} {k : α → Rho → R (List D)} : ∀ {r : R α}, Pa F w σ G Q (r.bind k) →
    Po F w σ G N (fun v H' => ∃ a ρ' G', Same G G' ∧ Rel F ρ' σ G' H' ∧ N ρ' G' H' v a ∧ Pa F w σ G' Q (k a ρ')) r
  | .ok a ρ, h => fun v G2 H2 s r n => ⟨a, ρ, G2, s, r, n, Pa.mono s h⟩
  | .exc _ _, h => h
  | .bad, h => h
/-- arguments, then anything -/
theorem Pa.bind {F : Fx} {w : Wi} {σ : L2.St} {G : Hp} {β : Type} {M : Rho → Hp → Hp → V → β → Prop} {Q : VK} {k : List D → Rho → R β} : ∀ {r : R (List D)}, Po F w σ G M Q (r.bind k) →
    Pa F w σ G (fun vs H' => ∃ ds ρ' G', Same G G' ∧ Rel F ρ' σ G' H' ∧ Dqs F.K G' vs ds ∧ Po F w σ G' M Q (k ds ρ')) r
  | .ok a ρ, h => fun v G2 H2 s r n => ⟨a, ρ, G2, s, r, n, Po.mono s h⟩
  | .exc _ _, h => h
  | .bad, h => h
structure SA (X : Cx) (w : Wi) (es : List Expr) (f : Rho → R (List D)) : Prop where
  r : ∀ F : Fx, F.K = X.K → PA X es (tA F w f)
theorem pa_weak {X : Cx} {e : List Expr} {t t' : TA} (h : PA X e t) (i : ∀ σ H Q, t' σ H Q → t σ H Q) : PA X e t' := ⟨fun u pins s σ H Q I q => h.run u pins s σ H Q I (i σ H Q q)⟩
def aNil : Rho → R (List D) := fun ρ => .ok [] ρ
def aCons (f : Rho → R D) (g : Rho → R (List D)) : Rho → R (List D) := fun ρ => (f ρ).bind fun x ρ1 => (g ρ1).bind fun xs ρ2 => .ok (x :: xs) ρ2
section
variable {X : Cx} {w : Wi}
theorem sa_nil : SA X w [] aNil := ⟨fun F hF => pa_weak pa_nil fun σ H Q ⟨ρ, G, r, q⟩ => q [] G H (Same.refl _) r .nil⟩
theorem sa_cons {e : Expr} {es : List Expr} {f : Rho → R D} {g : Rho → R (List D)} (h : SE X w e f) (hs : SA X w es g) (hn : starEach (e :: es) X.env = (false, eval e X.env) :: starEach es X.env) : SA X w (e :: es) (aCons f g) :=
  ⟨fun F hF => pa_weak (pa_cons (h.r F hF) (hs.r F hF) hn) fun σ H Q ⟨ρ, G, r, q⟩ => ⟨ρ, G, r, (Pa.val q).imp fun v H1 ⟨x, ρ1, G1, s1, r1, n1, q1⟩ => ⟨ρ1, G1, r1, by
    revert q1
    cases g ρ1 with
    | ok xs ρ2 => exact fun q1 vs G2 H2 s2 r2 n2 => q1 (v :: vs) G2 H2 s2 r2 (.cons (n1.mono s2) n2)
    | exc c ρ2 => exact fun q1 => q1
    | bad => exact fun q1 => q1⟩⟩⟩

/-! displays -/
def dTup (f : Rho → R (List D)) : Rho → R Vl := fun ρ => (f ρ).bind fun ds ρ1 => if ds.length ≤ lim then .ok (.d (.tup ds)) ρ1 else .bad
def dLst (f : Rho → R (List D)) : Rho → R Vl := fun ρ => (f ρ).bind fun ds ρ1 => if ds.length ≤ lim then .ok (.own ds) ρ1 else .bad
theorem sv_tup {es : List Expr} {k : Nat} {pos : Pos} {f : Rho → R (List D)} (h : SA X w es f) : SV X w (.Tuple es k pos) (dTup f) := ⟨fun F hF => pe_weak (pe_tup (h.r F hF)) fun σ H Q ⟨ρ, G, r, q⟩ => ⟨ρ, G, r,
  (Pa.bind q).imp fun vs H1 ⟨ds, ρ1, G1, s1, r1, n1, q1⟩ => by
    by_cases hl : ds.length ≤ lim
    · rw [if_pos hl] at q1
      refine ⟨lim_le (by rw [n1.length]; exact hl), fun p hp => ?_⟩
      obtain ⟨s, r', n⟩ := nv_tup r1 hp n1
      exact q1 _ _ _ s r' n
    · rw [if_neg hl] at q1
      exact q1.elim⟩⟩
theorem sv_lst {es : List Expr} {pos : Pos} {f : Rho → R (List D)} (h : SA X w es f) : SV X w (.List es pos) (dLst f) := ⟨fun F hF => pe_weak (pe_lst (h.r F hF)) fun σ H Q ⟨ρ, G, r, q⟩ => ⟨ρ, G, r,
  (Pa.bind q).imp fun vs H1 ⟨ds, ρ1, G1, s1, r1, n1, q1⟩ => by
    by_cases hl : ds.length ≤ lim
    · rw [if_pos hl] at q1
      refine ⟨lim_le (by rw [n1.length]; exact hl), fun p hp => ?_⟩
      obtain ⟨r', n⟩ := nv_lst r1 hp n1
      exact q1 _ _ _ (Same.refl _) r' n
    · rw [if_neg hl] at q1
      exact q1.elim⟩⟩

/-! names, constants -/
def rVar (i : Nat) : Rho → R Vl := fun ρ => match ρ[i]? with
  | some (.val d) => .ok (.d d) ρ
  | some (.own ds) => .ok (.d (.lst ds)) (ρ.set i (.val (.lst ds)))
  | _ => .bad
theorem sv_var {i : Nat} {x : Str} {pos : Pos} (hN : X.N[i]? = some x) (hv : Vis X.env.scope x) (hd : (x == ("__debug__" : Str)) = false) (hcd : (x == ("__classdict__" : Str)) = false) : SV X w (.Name x pos) (rVar i) :=
  ⟨fun F hF => pe_weak (pe_var hN hv hd hcd) fun σ H Q ⟨ρ, G, r, q⟩ => by
    unfold rVar at q
    cases e : ρ[i]? with
    | none => rw [e] at q; exact q.elim
    | some s =>
      rw [e] at q
      cases s with
      | val d =>
        obtain ⟨v, e1, n⟩ := r.sl i _ e
        exact ⟨v, e1, q v G H (Same.refl _) r n⟩
      | own ds =>
        obtain ⟨p, vs, e1, e2, e3, e4, e5, r', n⟩ := r.own e
        exact ⟨_, e1, q _ _ H e5 r' n⟩
      | _ => exact q.elim⟩
def rCon (d : D) : Rho → R Vl := fun ρ => .ok (.d d) ρ
theorem sv_con {e : Expr} {v : V} {d : D} (h : PE X e (tC v)) (n : ∀ G, Dq X.K G v d) : SV X w e (rCon d) := ⟨fun F hF => pe_weak h fun σ H Q ⟨ρ, G, r, q⟩ => q v G H (Same.refl _) r (show Dq F.K G v d from hF ▸ n G)⟩

/-! and, or, not, if -/
def fNot (f : Rho → R Bool) : Rho → R Bool := fun ρ => (f ρ).bind fun b ρ1 => .ok (!b) ρ1
theorem st_not {a : Expr} {f : Rho → R Bool} {pos : Pos} (h : ST X w a f) : ST X w (.UnaryOp .Not a pos) (fNot f) := ⟨fun F hF => pt_weak (pt_not (h.r F hF)) fun σ H Q ⟨ρ, G, r, q⟩ => ⟨ρ, G, r,
  (Pt.bind q).imp fun b H1 ⟨ρ1, G1, s1, r1, q1⟩ => q1 G1 H1 (Same.refl _) r1⟩⟩
def vNot (f : Rho → R Vl) : Rho → R Vl := fun ρ => (f ρ).bind fun v ρ1 => (truV v ρ1).bind fun b ρ2 => .ok (.d (.bool (!b))) ρ2
theorem tru_po {F : Fx} {ρ : Rho} {σ : L2.St} {G H : Hp} {β : Type} {M : Rho → Hp → Hp → V → β → Prop} {Q : VK} {a : Vl} {v : V} {k : Bool → Rho → R β} (rel : Rel F ρ σ G H) (n : Nv F ρ σ G H v a) (q : Po F w σ G M Q ((truV a ρ).bind k)) : ∃ b, v = .bl b ∧ Po F w σ G M Q (k b ρ) := by
  cases a with
  | d x =>
    cases x with
    | bool b =>
      cases n
      exact ⟨b, rfl, q⟩
    | _ => exact q.elim
  | own _ => exact q.elim
  | dct _ => exact q.elim
  | dtp _ => exact q.elim
theorem sv_not {a : Expr} {f : Rho → R Vl} {pos : Pos} (h : SV X w a f) : SV X w (.UnaryOp .Not a pos) (vNot f) := ⟨fun F hF => pe_weak (pe_not (h.r F hF)) fun σ H Q ⟨ρ, G, r, q⟩ => ⟨ρ, G, r,
  (Po.bind q).imp fun v H1 ⟨x, ρ1, G1, s1, r1, n1, q1⟩ => by
    obtain ⟨b, e, q2⟩ := tru_po r1 n1 q1
    exact ⟨b, e, q2 _ G1 H1 (Same.refl _) r1 (.bl _)⟩⟩⟩
structure SW (X : Cx) (w : Wi) (e : Expr) (f : Rho → R Bool) : Prop where
  r : ∀ F : Fx, F.K = X.K → PW X e (tT F w f)
theorem SW.st {e : Expr} {f : Rho → R Bool} (h : SW X w e f) : ST X w e f := ⟨fun F hF => (h.r F hF).pt⟩
def fAnd (f g : Rho → R Bool) : Rho → R Bool := fun ρ => (f ρ).bind fun b ρ1 => if b = true then g ρ1 else .ok false ρ1
def fOr (f g : Rho → R Bool) : Rho → R Bool := fun ρ => (f ρ).bind fun b ρ1 => if b = true then .ok true ρ1 else g ρ1
theorem sw_and {a b : Expr} {rest : List Expr} {f g : Rho → R Bool} {pos : Pos} (h : ST X w a f) (h2 : SW X w (.BoolOp .And (b :: rest) pos) g) : SW X w (.BoolOp .And (a :: b :: rest) pos) (fAnd f g) :=
  ⟨fun F hF => pw_weak (pw_and (h.r F hF) (h2.r F hF)) fun σ H Q ⟨ρ, G, r, q⟩ => ⟨ρ, G, r, (Pt.bind q).imp fun b H1 ⟨ρ1, G1, s1, r1, q1⟩ => by
    cases b with
    | true => rw [if_pos rfl] at q1 ⊢; exact ⟨ρ1, G1, r1, q1⟩
    | false => rw [if_neg Bool.false_ne_true] at q1 ⊢; exact q1 G1 H1 (Same.refl _) r1⟩⟩
theorem sw_or {a b : Expr} {rest : List Expr} {f g : Rho → R Bool} {pos : Pos} (h : ST X w a f) (h2 : SW X w (.BoolOp .Or (b :: rest) pos) g) : SW X w (.BoolOp .Or (a :: b :: rest) pos) (fOr f g) :=
  ⟨fun F hF => pw_weak (pw_or (h.r F hF) (h2.r F hF)) fun σ H Q ⟨ρ, G, r, q⟩ => ⟨ρ, G, r, (Pt.bind q).imp fun b H1 ⟨ρ1, G1, s1, r1, q1⟩ => by
    cases b with
    | true => rw [if_pos rfl] at q1 ⊢; exact q1 G1 H1 (Same.refl _) r1
    | false => rw [if_neg Bool.false_ne_true] at q1 ⊢; exact ⟨ρ1, G1, r1, q1⟩⟩⟩
theorem sw_and1 {a : Expr} {f : Rho → R Bool} {pos : Pos} (h : ST X w a f) : SW X w (.BoolOp .And [a] pos) f := ⟨fun F hF => pw_and1 (h.r F hF)⟩
theorem sw_or1 {a : Expr} {f : Rho → R Bool} {pos : Pos} (h : ST X w a f) : SW X w (.BoolOp .Or [a] pos) f := ⟨fun F hF => pw_or1 (h.r F hF)⟩
/-- as values: both are bools -/
def vBl (f : Rho → R Bool) : Rho → R Vl := fun ρ => (f ρ).bind fun b ρ1 => .ok (.d (.bool b)) ρ1
def vAnd (f g : Rho → R Vl) : Rho → R Vl := fun ρ => (tru (f ρ)).bind fun b ρ1 => if b = true then g ρ1 else .ok (.d (.bool false)) ρ1
def vOr (f g : Rho → R Vl) : Rho → R Vl := fun ρ => (tru (f ρ)).bind fun b ρ1 => if b = true then .ok (.d (.bool true)) ρ1 else g ρ1
theorem tru_bind {F : Fx} {σ : L2.St} {G : Hp} {β : Type} {M : Rho → Hp → Hp → V → β → Prop} {Q : VK} {k : Bool → Rho → R β} : ∀ {r : R Vl}, Po F w σ G M Q ((tru r).bind k) →
    Po F w σ G (NvR F σ) (fun v H' => ∃ b ρ' G', v = .bl b ∧ Same G G' ∧ Rel F ρ' σ G' H' ∧ Po F w σ G' M Q (k b ρ')) r
  | .ok a ρ, h => fun v G2 H2 s r n => by
    have h : Po F w σ G M Q ((truV a ρ).bind k) := h
    obtain ⟨b, e, q⟩ := tru_po r n (Po.mono s h)
    exact ⟨b, ρ, G2, e, s, r, q⟩
  | .exc _ _, h => h
  | .bad, h => h
theorem sv_and {a b : Expr} {rest : List Expr} {f g : Rho → R Vl} {pos : Pos} (h : SV X w a f) (h2 : SV X w (.BoolOp .And (b :: rest) pos) g) : SV X w (.BoolOp .And (a :: b :: rest) pos) (vAnd f g) :=
  ⟨fun F hF => pe_weak (pe_and (h.r F hF) (h2.r F hF)) fun σ H Q ⟨ρ, G, r, q⟩ => ⟨ρ, G, r, (tru_bind q).imp fun v H1 ⟨b, ρ1, G1, e, s1, r1, q1⟩ => ⟨b, e, by
    cases b with
    | true => rw [if_pos rfl] at q1 ⊢; exact ⟨ρ1, G1, r1, q1⟩
    | false => rw [if_neg Bool.false_ne_true] at q1 ⊢; exact q1 _ G1 H1 (Same.refl _) r1 (.bl _)⟩⟩⟩
theorem sv_or {a b : Expr} {rest : List Expr} {f g : Rho → R Vl} {pos : Pos} (h : SV X w a f) (h2 : SV X w (.BoolOp .Or (b :: rest) pos) g) : SV X w (.BoolOp .Or (a :: b :: rest) pos) (vOr f g) :=
  ⟨fun F hF => pe_weak (pe_or (h.r F hF) (h2.r F hF)) fun σ H Q ⟨ρ, G, r, q⟩ => ⟨ρ, G, r, (tru_bind q).imp fun v H1 ⟨b, ρ1, G1, e, s1, r1, q1⟩ => ⟨b, e, by
    cases b with
    | true => rw [if_pos rfl] at q1 ⊢; exact q1 _ G1 H1 (Same.refl _) r1 (.bl _)
    | false => rw [if_neg Bool.false_ne_true] at q1 ⊢; exact ⟨ρ1, G1, r1, q1⟩⟩⟩⟩
theorem sv_one {a : Expr} {o : BoolOp} {f : Rho → R Vl} {pos : Pos} (h : SV X w a f) : SV X w (.BoolOp o [a] pos) f := ⟨fun F hF => pe_one (h.r F hF)⟩
def vIte (c : Rho → R Bool) (f g : Rho → R Vl) : Rho → R Vl := fun ρ => (c ρ).bind fun b ρ1 => if b = true then f ρ1 else g ρ1
theorem sv_ite {c a b : Expr} {t : Rho → R Bool} {f g : Rho → R Vl} {pos : Pos} (hc : ST X w c t) (ha : SV X w a f) (hb : SV X w b g) : SV X w (.IfExp c a b pos) (vIte t f g) :=
  ⟨fun F hF => pe_weak (pe_ifExp (hc.r F hF) (ha.r F hF) (hb.r F hF)) fun σ H Q ⟨ρ, G, r, q⟩ => ⟨ρ, G, r, (Po.test q).imp fun b H1 ⟨ρ1, G1, s1, r1, q1⟩ => by
    cases b with
    | true => rw [if_pos rfl] at q1 ⊢; exact ⟨ρ1, G1, r1, q1⟩
    | false => rw [if_neg Bool.false_ne_true] at q1 ⊢; exact ⟨ρ1, G1, r1, q1⟩⟩⟩

/-! subscripts, slices -/
def ixD : D → D → Option Vl
  | .lst ds, .int i => (atI ds i).map .d
  | .tup ds, .int i => (atI ds i).map .d
  | .scr ns, .int i => (atI ns i).map fun n => .d (.int n)
  | _, _ => none
theorem atI_dq {K : PySem.W.Frag} {G : Hp} {vs : List V} {ds : List D} {i : Int} {d : D} (h : Dqs K G vs ds) (e : atI ds i = some d) : ∃ v, atI vs i = some v ∧ Dq K G v d := by
  unfold atI at e ⊢
  rw [h.length]
  cases hi : ixN ds.length i with
  | none => rw [hi] at e; cases e
  | some j =>
    rw [hi] at e
    exact h.get e
theorem atI_map {α β : Type} (f : α → β) (l : List α) (i : Int) : atI (l.map f) i = (atI l i).map f := by
  unfold atI
  rw [List.length_map]
  cases ixN l.length i with
  | none => rfl
  | some j => exact List.getElem?_map ..
theorem sv_ix {a b : Expr} {f g : Rho → R D} {pos : Pos} (ha : SE X w a f) (hb : SE X w b g) (hs : PlainIx b) : SV X w (.Subscript a b pos) (bin2 ixD f g) :=
  ⟨fun F hF => pe_weak (pe_ix (ix_list.or (ix_tup (X := X))) (ha.r F hF) (hb.r F hF) hs) (bin2_t hF fun F hF ρ σ G H Q v1 v2 d1 d2 r n1 n2 h => by
    cases n1 with
    | lst h1 m1 =>
      cases n2 with
      | int i =>
        rename_i a xs ds
        cases e : atI ds i with
        | none =>
          have h : Pu F ρ σ G H Q ((atI ds i).map .d) := h
          rw [e] at h; exact h.elim
        | some d =>
          have h : Pu F ρ σ G H Q ((atI ds i).map .d) := h
          rw [e] at h
          obtain ⟨v, e1, n⟩ := atI_dq m1 e
          exact .inl ⟨a, xs, i, v, rfl, rfl, SqL.of (r.gh _ _ h1), e1, h.d r n⟩
      | _ => exact h.elim
    | tup h1 m1 =>
      cases n2 with
      | int i =>
        rename_i a xs ds
        cases e : atI ds i with
        | none =>
          have h : Pu F ρ σ G H Q ((atI ds i).map .d) := h
          rw [e] at h; exact h.elim
        | some d =>
          have h : Pu F ρ σ G H Q ((atI ds i).map .d) := h
          rw [e] at h
          obtain ⟨v, e1, n⟩ := atI_dq m1 e
          exact .inr ⟨a, xs, i, v, rfl, rfl, hF ▸ mem_G r h1, e1, h.d r n⟩
      | _ => exact h.elim
    | scr h1 =>
      cases n2 with
      | int i =>
        rename_i a ns
        have h : Pu F ρ σ G H Q ((atI ns i).map fun n => .d (.int n)) := h
        cases e : atI ns i with
        | none => rw [e] at h; exact h.elim
        | some d =>
          rw [e] at h
          exact .inl ⟨a, _, i, .int d, rfl, rfl, hF ▸ r.gh.seq h1, by rw [atI_map, e]; rfl, h.d r (.int _)⟩
      | _ => exact h.elim
    | _ => exact h.elim)⟩
/-- x[i], x a local name: its own list is not frozen -/
def rIxv (i : Nat) (g : Rho → R D) : Rho → R Vl := fun ρ => (g ρ).bind fun y ρ1 => match ρ1[i]? with
  | some (.own ds) => lift ixD (.lst ds) y ρ1
  | some (.io ds) => lift ixD (.lst ds) y ρ1
  | some (.val d) => lift ixD d y ρ1
  | _ => .bad
end
end PF
end
section
namespace PF
open PySem PySem.Spec PyProof.Rows L2

section
variable {prog : Program} {w : World} {A : Around} {E : Value → Shared → Prop} {s : Shared}
/-! t[::-1] of a tuple -/
theorem fm_congr {α β : Type} {f g : α → Option β} : ∀ {l : List α}, (∀ a ∈ l, f a = g a) → l.filterMap f = l.filterMap g
  | [], _ => rfl
  | a :: l, h => by
    have ih := fm_congr (l := l) (fun b hb => h b (List.mem_cons_of_mem _ hb))
    rw [List.filterMap_cons, List.filterMap_cons, ih, h a List.mem_cons_self]
theorem rev_pick (xs : Array Value) : ((List.range xs.size).filterMap fun (k : Nat) => xs[(((xs.size : Nat) : Int) - 1 + (k : Int) * (-1)).toNat]?) = xs.toList.reverse := by
  have e1 : ((List.range xs.size).map fun k => xs.size - 1 - k) = (List.range xs.size).reverse := PySem.W.krv_range xs.size
  have e2 : ((List.range xs.size).filterMap fun (k : Nat) => xs[(((xs.size : Nat) : Int) - 1 + (k : Int) * (-1)).toNat]?) = ((List.range xs.size).map fun k => xs.size - 1 - k).filterMap (xs[·]?) := by
    rw [List.filterMap_map]
    refine fm_congr fun k hk => ?_
    have hk := List.mem_range.mp hk
    show xs[(((xs.size : Nat) : Int) - 1 + (k : Int) * (-1)).toNat]? = xs[xs.size - 1 - k]?
    congr 1
    omega
  rw [e2, e1, List.filterMap_reverse, PySem.W.krv_all]
theorem rev_adj (n : Nat) : Builtin.Slice.sliceAdjust none none (-1) (n : Int) = ((n : Int) - 1, -1) := rfl
theorem rev_places (n : Nat) : Builtin.Slice.slicePlaces ((n : Int) - 1) (-1) (-1) = n := by
  unfold Builtin.Slice.slicePlaces
  rw [if_neg (show ¬ ((-1 : Int) > 0) by decide)]
  by_cases h : n = 0
  · subst h
    rfl
  · rw [if_pos (show (n : Int) - 1 > -1 by omega), show (-(-1) : Int) = 1 by decide, Int.ediv_one]
    omega
theorem tup_rev {t sl : Addr} {xs : Array Value} {t1 : Tok} {Q : Value → Shared → Prop} (ht : IsTup s.heap t xs) (hs : s.heap.IsSliceOf sl .none .none (.int (-1) t1)) (hz : xs.size ≤ sizeLine)
    (h : Q (.ref s.heap.objs.size) { s with heap := s.heap.push { cls := .type "tuple", data := .seq xs.toList.reverse.toArray } }) : wpAny (model prog w) A (getItem (.ref t) (.ref sl)) Q E s := by
  obtain ⟨o1, g1, g2, g3⟩ := id hs
  have ts : s.TypeIs (.ref sl) "slice" := ⟨o1, g1, g2⟩
  unfold getItem
  try with_reducible refine wpAny_holding ?_
  first | refine wpAny_bind (wpAny_pure ?_) | skip
  refine wpAny_bind (wpAny_sequenceKey ht.typeIs (by decide) (wpAny_bind (wpAny_callSpecial?_slot (name := Str.ofString "__getitem__") ht.typeIs PyProof.Rows.slot_tuple_getitem (wpAny_call_entry PyProof.Rows.slot_tuple_getitem ht.typeIs entry_tuple_getitem ?_ (args_tuple_getitem _ _)))))
  show wpAny _ _ (Builtin.Tuple.tupleItemsOf (.ref t) >>= _) _ _ s
  refine wpAny_bind (tupleItemsOf_ ht (wpAny_bind (wpAny_typeOf ts ?_)))
  rw [if_pos (by decide)]
  refine wpAny_bind ?_
  unfold Builtin.Slice.sliceApplied Builtin.Slice.sliceFields
  refine wpAny_bind (wpAny_bind (wpAny_field g1 g3 (x := .none) rfl (wpAny_bind (wpAny_field g1 g3 (x := .none) rfl (wpAny_bind (wpAny_field g1 g3 (x := .int (-1) t1) rfl (wpAny_pure ?_)))))))
  refine wpAny_bind (slicePart_int ?_)
  show wpAny _ _ (if ((-1 : Int) == 0) = true then _ else _) _ _ s
  rw [if_neg (by decide)]
  refine wpAny_bind (slicePart_none (wpAny_bind (slicePart_none (wpAny_bind (wpAny_pure ?_)))))
  show wpAny _ _ (match Builtin.Slice.sliceAdjust none none (-1) (xs.size : Int) with | (lo, hi) => pure (lo, (-1 : Int), Builtin.Slice.slicePlaces lo hi (-1))) _ _ s
  rw [rev_adj]
  show wpAny _ _ (pure (((xs.size : Nat) : Int) - 1, (-1 : Int), Builtin.Slice.slicePlaces (((xs.size : Nat) : Int) - 1) (-1) (-1))) _ _ s
  rw [rev_places]
  refine wpAny_pure ?_
  have hno : ¬ (((((xs.size : Nat) : Int) - 1) == 0 && (-1 : Int) == 1 && xs.size == xs.size) = true) := by
    rw [show ((-1 : Int) == 1) = false by decide, Bool.and_false, Bool.false_and]
    exact Bool.false_ne_true
  show wpAny _ _ (if ((((xs.size : Nat) : Int) - 1) == 0 && (-1 : Int) == 1 && xs.size == xs.size) = true then _ else _) _ _ s
  rw [if_neg hno, rev_pick]
  have hk : sizeOk (.seq xs.toList.reverse.toArray) := by
    show xs.toList.reverse.toArray.size ≤ sizeLine
    rw [List.size_toArray, List.length_reverse, Array.length_toList]
    exact hz
  first
    | exact wpAny_bind (m := Builtin.Tuple.tupleExact _) (wpAny_newObj_type (wpAny_pure ⟨_, rfl, wpAny_pure h⟩) hk)
    | exact wpAny_bind (m := Builtin.Tuple.tupleExact _) (wpAny_newObj_type (wpAny_bind (wpAny_pure (wpAny_pure ⟨_, rfl, wpAny_pure h⟩))) hk)
    | exact wpAny_bind (wpAny_bind (m := Builtin.Tuple.tupleExact _) (wpAny_newObj_type (wpAny_pure (wpAny_pure ⟨_, rfl, wpAny_pure h⟩)) hk))
    | exact wpAny_bind (wpAny_bind (m := Builtin.Tuple.tupleExact _) (wpAny_newObj_type (wpAny_pure ⟨_, rfl, wpAny_pure h⟩) hk))
end
def tRevT (K : PySem.W.Frag) (te : TE) : TE := fun σ H Q => te σ H fun x H1 => ∃ a xs, x = .ref a ∧ SqT K H1 a xs ∧ ∀ p, H1 p = none → Q (.ref p) (upd H1 p (.tup xs.reverse))
theorem pe_revT {X : Cx} {e : Expr} {te : TE} {k : Nat} {p1 p2 p3 pos : Pos} (he : PE X e te) : PE X (.Subscript e (.Slice none none (some (.UnaryOp .USub (.Constant (.int 1) k p1) p2)) p3) pos) (tRevT X.K te) := by
  refine ⟨fun pins s σ H Q I h => ?_⟩
  refine Subscript_ (thn (he.run pins s σ H _ I h) fun v s1 ⟨x, H1, I1, r1, a, xs, ex, hx, q⟩ => ?_)
  subst ex
  cases r1
  have hp : PE X (.UnaryOp .USub (.Constant (.int 1) k p1) p2) (tUn (rU fun i => .int (-i)) (tC (.int 1))) := pe_un un_neg pe_int
  refine wpAny_Slice (thn (po_none.run pins s1 σ H1 (fun o H2 => o = none ∧ H2 = H1) I1 ⟨rfl, rfl⟩) fun vl s2 ⟨l, H2, I2, pl, el, e2⟩ => ?_)
  subst el e2
  refine thn (po_none.run pins s2 σ H2 (fun o H3 => o = none ∧ H3 = H2) I2 ⟨rfl, rfl⟩) fun vu s3 ⟨u, H3, I3, pu, eu, e3⟩ => ?_
  subst eu e3
  refine thn ((po_some hp).run pins s3 σ H3 (fun o H4 => o = some (-1) ∧ H4 = H3) I3 ⟨1, rfl, -1, rfl, rfl, rfl⟩) fun vs s4 ⟨o, H4, I4, ps, eo, e4⟩ => ?_
  subst eo e4
  cases pl; cases pu
  obtain ⟨t1, rfl⟩ : ∃ t1, vs = .int (-1) t1 := by
    cases ps with
    | int _ t1 => exact ⟨t1, rfl⟩
  have I5 : Inv X pins σ H4 { s4 with heap := s4.heap.push { cls := .type "slice", data := .fields #[.none, .none, .int (-1) t1] } } := I4.kept (t' := s4.toks) fun b ob q => Heap.get?_push_of_some _ q
  obtain ⟨its, r, ht, hz⟩ := I5.tuple hx
  have hl := r.length
  show wpAny (model X.prog X.w) X.A (subscriptTail e (.Slice none none (some (.UnaryOp .USub (.Constant (.int 1) k p1) p2)) p3) (.ref a) (.ref s4.heap.objs.size)) (EP X pins σ Q) X.xe { s4 with heap := s4.heap.push { cls := .type "slice", data := .fields #[.none, .none, .int (-1) t1] } }
  refine tail_any (ops := [.ref a, .ref s4.heap.objs.size]) ht.typeIs PyProof.Rows.slot_tuple_getitem.lookup ?_ (by with_unfolding_all rfl)
  refine tup_rev ht (Heap.IsSliceOf.new _ .none .none (.int (-1) t1)) (by rw [List.size_toArray]; omega) ?_
  refine ⟨.ref _, _, I5.laid (t' := s4.toks) (o := .tup xs.reverse) (fun b ob q => Heap.get?_push_of_some _ q) (Nat.le_refl _) ?_, rfl, q _ (I5.hok.fresh (Nat.le_refl _))⟩
  exact ⟨by rw [List.length_reverse]; exact hz, its.reverse, r.reverse, IsTup.new _ _⟩
end PF
end
section
namespace PF
open PySem PySem.Spec PyProof.Rows L2

section
variable {X : Cx} {w : Wi}
theorem lift_Pu {F : Fx} {ρ : Rho} {σ : L2.St} {G H : Hp} {Q : VK} {op : D → D → Option Vl} {x y : D} (h : Po F w σ G (NvR F σ) Q (lift op x y ρ)) : Pu F ρ σ G H Q (op x y) := h.lift
theorem own_so {F : Fx} {ρ : Rho} {σ : L2.St} {G H : Hp} {i : Nat} {s : Sl} (r : Rel F ρ σ G H) (e : ρ[i]? = some s) (hs : s.mu = true) : ∃ p, σ[i]? = some (some (.ref p)) ∧ G p = none ∧ F.H0 p = none ∧ Mo F.K G H p s ∧ (s.isIo = true → p = F.ia i) := So.mut hs (r.sl i s e)
/-- there is a value in the slot -/
def hasV : Option Sl → Bool
  | some .un => false
  | some _ => true
  | none => false
theorem hasV_ok {F : Fx} {ρ : Rho} {σ : L2.St} {G H : Hp} {i : Nat} (r : Rel F ρ σ G H) (h : hasV ρ[i]? = true) : ∃ v, σ[i]? = some (some v) := by
  cases e : ρ[i]? with
  | none => rw [e] at h; cases h
  | some s =>
    rw [e] at h
    by_cases hm : s.mu = true
    · obtain ⟨p, e1, _⟩ := own_so r e hm
      exact ⟨_, e1⟩
    · cases s with
      | un => cases h
      | val d =>
        obtain ⟨v, e1, _⟩ := r.sl i _ e
        exact ⟨v, e1⟩
      | _ => exact absurd rfl hm
def gIxv (i : Nat) (g : Rho → R D) : Rho → R Vl := fun ρ => if hasV ρ[i]? = true then rIxv i g ρ else .bad
theorem sv_ixv {b : Expr} {g : Rho → R D} {i : Nat} {x : Str} {pos px : Pos} (hN : X.N[i]? = some x) (hv : Vis X.env.scope x) (hd : (x == ("__debug__" : Str)) = false) (hcd : (x == ("__classdict__" : Str)) = false) (hb : SE X w b g) (hs : PlainIx b) :
    SV X w (.Subscript (.Name x px) b pos) (gIxv i g) := ⟨fun F hF => pe_weak (pe_ix (ix_list.or (ix_tup (X := X))) (pe_var hN hv hd hcd) (hb.r F hF) hs) fun σ H Q ⟨ρ, G, r, q⟩ => by
  unfold gIxv at q
  by_cases hh : hasV ρ[i]? = true
  · rw [if_pos hh] at q
    obtain ⟨v, ev⟩ := hasV_ok r hh
    refine ⟨v, ev, ρ, G, r, (Po.bind q).imp fun v2 H2 ⟨y, ρ1, G1, s1, r1, n1, q1⟩ => ?_⟩
    have mm : ∀ {ds : List D} {s : Sl}, ρ1[i]? = some s → s.mu = true → (∀ p, Mo F.K G1 H2 p s → ∃ vs, H2 p = some (.lst vs) ∧ Dqs F.K G1 vs ds) → Po F w σ G1 (NvR F σ) Q (lift ixD (.lst ds) y ρ1) → rIxL X.K v v2 H2 Q := by
      intro ds s e hm hmo q2
      obtain ⟨p, e1, e2, e3, e4, _⟩ := own_so r1 e hm
      rw [ev] at e1
      have e1 : v = .ref p := Option.some.inj (Option.some.inj e1)
      subst e1
      obtain ⟨vs, hp, hd⟩ := hmo p e4
      have q2 := q2.lift (H := H2)
      cases n1 with
      | int k =>
        have q2 : Pu F ρ1 σ G1 H2 Q ((atI ds k).map .d) := q2
        cases ea : atI ds k with
        | none => rw [ea] at q2; exact q2.elim
        | some d =>
          rw [ea] at q2
          obtain ⟨z, e5, n⟩ := atI_dq hd ea
          exact ⟨p, vs, k, z, rfl, rfl, SqL.of hp, e5, q2.d r1 n⟩
      | _ => exact q2.elim
    cases e : ρ1[i]? with
    | none => rw [e] at q1; exact q1.elim
    | some s =>
      rw [e] at q1
      cases s with
      | own ds => exact .inl (mm e rfl (fun p m => m) q1)
      | io ds => exact .inl (mm e rfl (fun p m => m) q1)
      | val d =>
        obtain ⟨v', e1, n⟩ := r1.sl i _ e
        rw [ev] at e1
        have e1 : v = v' := Option.some.inj (Option.some.inj e1)
        subst e1
        have q2 := Po.lift (H := H2) q1
        cases n with
        | @lst a xs ds h1 m1 =>
          cases n1 with
          | int k =>
            have q2 : Pu F ρ1 σ G1 H2 Q ((atI ds k).map .d) := q2
            cases ea : atI ds k with
            | none => rw [ea] at q2; exact q2.elim
            | some d =>
              rw [ea] at q2
              obtain ⟨z, e5, n⟩ := atI_dq m1 ea
              exact .inl ⟨a, xs, k, z, rfl, rfl, SqL.of (r1.gh _ _ h1), e5, q2.d r1 n⟩
          | _ => exact q2.elim
        | @tup a xs ds h1 m1 =>
          cases n1 with
          | int k =>
            have q2 : Pu F ρ1 σ G1 H2 Q ((atI ds k).map .d) := q2
            cases ea : atI ds k with
            | none => rw [ea] at q2; exact q2.elim
            | some d =>
              rw [ea] at q2
              obtain ⟨z, e5, n⟩ := atI_dq m1 ea
              exact .inr ⟨a, xs, k, z, rfl, rfl, hF ▸ mem_G r1 h1, e5, q2.d r1 n⟩
          | _ => exact q2.elim
        | @scr a ns h1 =>
          cases n1 with
          | int k =>
            have q2 : Pu F ρ1 σ G1 H2 Q ((atI ns k).map fun n => .d (.int n)) := q2
            cases ea : atI ns k with
            | none => rw [ea] at q2; exact q2.elim
            | some d =>
              rw [ea] at q2
              exact .inl ⟨a, _, k, .int d, rfl, rfl, hF ▸ r1.gh.seq h1, by rw [atI_map, ea]; rfl, q2.d r1 (.int _)⟩
          | _ => exact q2.elim
        | _ => cases n1 <;> exact q2.elim
      | _ => exact q1.elim
  · rw [if_neg hh] at q
    exact q.elim⟩

/-! slices -/
def So' (F : Fx) (w : Wi) (σ : L2.St) (G : Hp) (Q : Option Int → Hp → Prop) : R (Option Int) → Prop
  | .ok o ρ => ∀ G' H', Same G G' → Rel F ρ σ G' H' → Q o H'
  | .exc c ρ => ∀ G' H', Same G G' → Rel F ρ σ G' H' → w.W (.ref (w.ec c)) none σ H'
  | .bad => False
def tO (F : Fx) (w : Wi) (f : Rho → R (Option Int)) : TO := fun σ H Q => ∃ ρ G, Rel F ρ σ G H ∧ So' F w σ G Q (f ρ)
structure SO (X : Cx) (w : Wi) (e : Option Expr) (f : Rho → R (Option Int)) : Prop where
  r : ∀ F : Fx, F.K = X.K → PO X e (tO F w f)
theorem po_weak {e : Option Expr} {t t' : TO} (h : PO X e t) (i : ∀ σ H Q, t' σ H Q → t σ H Q) : PO X e t' := ⟨fun pins s σ H Q I q => h.run pins s σ H Q I (i σ H Q q)⟩
def oNone : Rho → R (Option Int) := fun ρ => .ok none ρ
def oSome (f : Rho → R D) : Rho → R (Option Int) := fun ρ => (f ρ).bind fun d ρ1 => match d with
  | .int i => .ok (some i) ρ1
  | _ => .bad
theorem so_none : SO X w none oNone := ⟨fun F hF => po_weak po_none fun σ H Q ⟨ρ, G, r, q⟩ => q G H (Same.refl _) r⟩
theorem so_bind {F : Fx} {σ : L2.St} {G : Hp} {α : Type} {N : Rho → Hp → Hp → V → α → Prop} {Q : Option Int → Hp → Prop} {k : α → Rho → R (Option Int)} : ∀ {r : R α}, So' F w σ G Q (r.bind k) →
    Po F w σ G N (fun v H' => ∃ a ρ' G', Same G G' ∧ Rel F ρ' σ G' H' ∧ N ρ' G' H' v a ∧ So' F w σ G' Q (k a ρ')) r
  | .ok a ρ, h => fun v G2 H2 s r n => ⟨a, ρ, G2, s, r, n, by
    revert h
    show So' F w σ G Q (k a ρ) → So' F w σ G2 Q (k a ρ)
    cases k a ρ with
    | ok o ρ2 => exact fun h G3 H3 s3 => h G3 H3 (s.trans s3)
    | exc c ρ2 => exact fun h G3 H3 s3 => h G3 H3 (s.trans s3)
    | bad => exact fun h => h⟩
  | .exc _ _, h => h
  | .bad, h => h
theorem so_some {e : Expr} {f : Rho → R D} (h : SE X w e f) : SO X w (some e) (oSome f) := ⟨fun F hF => po_weak (po_some (h.r F hF)) fun σ H Q ⟨ρ, G, r, q⟩ => ⟨ρ, G, r, (so_bind q).imp fun v H1 ⟨d, ρ1, G1, s1, r1, n1, q1⟩ => by
  cases n1 with
  | int i => exact ⟨i, rfl, q1 G1 H1 (Same.refl _) r1⟩
  | _ => exact q1.elim⟩⟩
def cutD (xs : List D) (lo hi : Option Int) : List D := (xs.drop (HT.sIx xs.length 0 lo)).take (HT.sIx xs.length xs.length hi - HT.sIx xs.length 0 lo)
def slD : D → Option Int → Option Int → Option Vl
  | .lst ds, lo, hi => some (.own (cutD ds lo hi))
  | .tup ds, lo, hi => some (.d (.tup (cutD ds lo hi)))
  | _, _, _ => none
theorem cut_dq {K : PySem.W.Frag} {G : Hp} {vs : List V} {ds : List D} (h : Dqs K G vs ds) (lo hi : Option Int) : Dqs K G (cutV vs lo hi) (cutD ds lo hi) := by
  unfold cutV cutD
  rw [h.length]
  exact (h.drop _).take _
theorem cut_whole {xs : List D} {lo hi : Option Int} (h : HT.sIx xs.length 0 lo = 0 ∧ HT.sIx xs.length xs.length hi = xs.length) : cutD xs lo hi = xs := by
  unfold cutD
  rw [h.1, h.2, List.drop_zero, Nat.sub_zero, List.take_length]
def vSl (f : Rho → R D) (l u : Rho → R (Option Int)) : Rho → R Vl := fun ρ => (f ρ).bind fun x ρ1 => (l ρ1).bind fun lo ρ2 => (u ρ2).bind fun hi ρ3 => match slD x lo hi with
  | some a => .ok a ρ3
  | none => .bad
theorem o_bind {F : Fx} {σ : L2.St} {G : Hp} {β : Type} {M : Rho → Hp → Hp → V → β → Prop} {Q : VK} {k : Option Int → Rho → R β} : ∀ {r : R (Option Int)}, Po F w σ G M Q (r.bind k) →
    So' F w σ G (fun o H' => ∃ ρ' G', Same G G' ∧ Rel F ρ' σ G' H' ∧ Po F w σ G' M Q (k o ρ')) r
  | .ok a ρ, h => fun G2 H2 s r => ⟨ρ, G2, s, r, Po.mono s h⟩
  | .exc _ _, h => h
  | .bad, h => h
theorem So'.imp {F : Fx} {σ : L2.St} {G : Hp} {Q Q' : Option Int → Hp → Prop} (e : ∀ v H, Q v H → Q' v H) : ∀ {r : R (Option Int)}, So' F w σ G Q r → So' F w σ G Q' r
  | .ok _ _, h => fun G2 H2 s r => e _ _ (h G2 H2 s r)
  | .exc _ _, h => h
  | .bad, h => h
theorem sv_slice {e : Expr} {lo hi : Option Expr} {f : Rho → R D} {l u : Rho → R (Option Int)} {p2 pos : Pos} (h : SE X w e f) (hl : SO X w lo l) (hu : SO X w hi u) : SV X w (.Subscript e (.Slice lo hi none p2) pos) (vSl f l u) :=
  ⟨fun F hF => pe_weak (pe_slice ((sl_list (X := X)).or sl_tupA) (h.r F hF) (hl.r F hF) (hu.r F hF)) fun σ H Q ⟨ρ, G, r, q⟩ => ⟨ρ, G, r,
    (Po.bind q).imp fun v H1 ⟨x, ρ1, G1, s1, r1, n1, q1⟩ => ⟨ρ1, G1, r1, (o_bind q1).imp fun lo' H2 ⟨ρ2, G2, s2, r2, q2⟩ => ⟨ρ2, G2, r2, (o_bind q2).imp fun hi' H3 ⟨ρ3, G3, s3, r3, q3⟩ => by
      have n3 := n1.mono (s2.trans s3)
      cases n3 with
      | @lst a xs ds h1 m1 =>
        exact .inl ⟨a, xs, rfl, SqL.of (r3.gh _ _ h1), fin_lst r3 (cut_dq m1 lo' hi') q3⟩
      | @tup a xs ds h1 m1 =>
        refine .inr ⟨a, xs, rfl, hF ▸ mem_G r3 h1, fun hw => ?_, fun _ => fin_tup r3 (cut_dq m1 lo' hi') q3⟩
        rw [m1.length] at hw
        have q4 : Po F w σ G3 (NvR F σ) Q (.ok (.d (.tup (cutD ds lo' hi'))) ρ3) := q3
        rw [cut_whole hw] at q4
        exact q4 _ G3 H3 (Same.refl _) r3 (.tup h1 m1)
      | _ => exact q3.elim⟩⟩⟩⟩
def revD : D → Option Vl
  | .lst ds => some (.own ds.reverse)
  | .tup ds => some (.d (.tup ds.reverse))
  | _ => none
def vRev (f : Rho → R D) : Rho → R Vl := fun ρ => (f ρ).bind fun x ρ1 => match revD x with
  | some a => .ok a ρ1
  | none => .bad
theorem sv_rev {e : Expr} {f : Rho → R D} {k : Nat} {p1 p2 p3 pos : Pos} (h : SE X w e f) : SV X w (.Subscript e (.Slice none none (some (.UnaryOp .USub (.Constant (.int 1) k p1) p2)) p3) pos) (vRev f) :=
  ⟨fun F hF => ⟨fun pins s σ H Q I ⟨ρ, G, r, q⟩ => by
    cases e1 : f ρ with
    | bad =>
      unfold vRev at q
      rw [e1] at q
      exact q.elim
    | exc c ρ1 =>
      refine (pe_revL (h.r F hF)).run pins s σ H Q I ⟨ρ, G, r, ?_⟩
      unfold vRev at q
      rw [e1] at q ⊢
      exact q
    | ok x ρ1 =>
      have q' := q
      unfold vRev at q'
      rw [e1] at q'
      have q' : Po F w σ G (NvR F σ) Q (match revD x with | some a => .ok a ρ1 | none => .bad) := q'
      cases x with
      | lst ds =>
        refine (pe_revL (h.r F hF)).run pins s σ H Q I ⟨ρ, G, r, ?_⟩
        rw [e1]
        intro v G1 H1 s1 r1 n1
        cases n1 with
        | lst h1 m1 => exact ⟨_, _, rfl, SqL.of (r1.gh _ _ h1), fin_lst r1 m1.reverse (Po.mono s1 q')⟩
      | tup ds =>
        refine (pe_revT (h.r F hF)).run pins s σ H Q I ⟨ρ, G, r, ?_⟩
        rw [e1]
        intro v G1 H1 s1 r1 n1
        cases n1 with
        | tup h1 m1 => exact ⟨_, _, rfl, hF ▸ mem_G r1 h1, fin_tup r1 m1.reverse (Po.mono s1 q')⟩
      | _ => exact q'.elim⟩⟩
end
end PF
end
section
namespace PF
open PySem PySem.Spec PyProof.Rows L2

/-! built-in functions of data -/
def maxI : List Int → Option Int
  | [] => none
  | n :: ns => some (ns.foldl max n)
def minI : List Int → Option Int
  | [] => none
  | n :: ns => some (ns.foldl min n)
theorem foldl_max : ∀ (ns : List Int) (n : Int), n ≤ ns.foldl max n ∧ (∀ y ∈ ns, y ≤ ns.foldl max n) ∧ (ns.foldl max n = n ∨ ns.foldl max n ∈ ns)
  | [], n => ⟨Int.le_refl _, fun _ h => (by cases h), .inl rfl⟩
  | m :: ns, n => by
    obtain ⟨h1, h2, h3⟩ := foldl_max ns (max n m)
    rw [List.foldl_cons]
    refine ⟨by omega, fun y hy => ?_, ?_⟩
    · rcases List.mem_cons.mp hy with e | hy
      · omega
      · exact h2 y hy
    · rcases h3 with e | e
      · by_cases h : n ≤ m
        · exact .inr (by rw [e, show max n m = m by omega]; exact List.mem_cons_self)
        · exact .inl (by rw [e]; omega)
      · exact .inr (List.mem_cons_of_mem _ e)
theorem foldl_min : ∀ (ns : List Int) (n : Int), ns.foldl min n ≤ n ∧ (∀ y ∈ ns, ns.foldl min n ≤ y) ∧ (ns.foldl min n = n ∨ ns.foldl min n ∈ ns)
  | [], n => ⟨Int.le_refl _, fun _ h => (by cases h), .inl rfl⟩
  | m :: ns, n => by
    obtain ⟨h1, h2, h3⟩ := foldl_min ns (min n m)
    rw [List.foldl_cons]
    refine ⟨by omega, fun y hy => ?_, ?_⟩
    · rcases List.mem_cons.mp hy with e | hy
      · omega
      · exact h2 y hy
    · rcases h3 with e | e
      · by_cases h : m ≤ n
        · exact .inr (by rw [e, show min n m = m by omega]; exact List.mem_cons_self)
        · exact .inl (by rw [e]; omega)
      · exact .inr (List.mem_cons_of_mem _ e)
theorem maxI_eq {ns : List Int} {k m : Int} (h : maxI ns = some k) (hm : m ∈ ns) (hy : ∀ y ∈ ns, y ≤ m) : m = k := by
  cases ns with
  | nil => cases h
  | cons n ns =>
    obtain ⟨h1, h2, h3⟩ := foldl_max ns n
    have h : ns.foldl max n = k := Option.some.inj h
    have a : m ≤ k := by
      rcases List.mem_cons.mp hm with e | hm
      · omega
      · rw [← h]; exact h2 m hm
    have b : k ≤ m := by
      rcases h3 with e | e
      · exact hy k (by rw [← h, e]; exact List.mem_cons_self)
      · exact hy k (by rw [← h]; exact List.mem_cons_of_mem _ e)
    omega
theorem minI_eq {ns : List Int} {k m : Int} (h : minI ns = some k) (hm : m ∈ ns) (hy : ∀ y ∈ ns, m ≤ y) : m = k := by
  cases ns with
  | nil => cases h
  | cons n ns =>
    obtain ⟨h1, h2, h3⟩ := foldl_min ns n
    have h : ns.foldl min n = k := Option.some.inj h
    have a : k ≤ m := by
      rcases List.mem_cons.mp hm with e | hm
      · omega
      · rw [← h]; exact h2 m hm
    have b : m ≤ k := by
      rcases h3 with e | e
      · exact hy k (by rw [← h, e]; exact List.mem_cons_self)
      · exact hy k (by rw [← h]; exact List.mem_cons_of_mem _ e)
    omega
def insI (x : Int) : List Int → List Int
  | [] => [x]
  | y :: ys => bif decide (x ≤ y) then x :: y :: ys else y :: insI x ys
def sortI : List Int → List Int
  | [] => []
  | x :: xs => insI x (sortI xs)
theorem insI_perm (x : Int) : ∀ ys : List Int, (insI x ys).Perm (x :: ys)
  | [] => .refl _
  | y :: ys => by
    unfold insI
    cases decide (x ≤ y) with
    | true => exact .refl _
    | false => exact ((insI_perm x ys).cons y).trans (.swap x y ys)
theorem sortI_perm : ∀ ys : List Int, (sortI ys).Perm ys
  | [] => .refl _
  | y :: ys => (insI_perm y (sortI ys)).trans ((sortI_perm ys).cons y)
theorem insI_sorted (x : Int) : ∀ ys : List Int, ys.Pairwise (· ≤ ·) → (insI x ys).Pairwise (· ≤ ·)
  | [], _ => List.pairwise_singleton _ _
  | y :: ys, h => by
    obtain ⟨h1, h2⟩ := List.pairwise_cons.mp h
    unfold insI
    cases e : decide (x ≤ y) with
    | true =>
      have e := of_decide_eq_true e
      refine List.pairwise_cons.mpr ⟨fun z hz => ?_, h⟩
      rcases List.mem_cons.mp hz with q | hz
      · omega
      · have := h1 z hz
        omega
    | false =>
      have e := of_decide_eq_false e
      refine List.pairwise_cons.mpr ⟨fun z hz => ?_, insI_sorted x ys h2⟩
      rcases List.mem_cons.mp ((insI_perm x ys).mem_iff.mp hz) with q | hz
      · omega
      · exact h1 z hz
theorem sortI_sorted : ∀ ys : List Int, (sortI ys).Pairwise (· ≤ ·)
  | [] => .nil
  | y :: ys => insI_sorted y _ (sortI_sorted ys)
theorem sorted_same : ∀ {xs ys : List Int}, xs.Perm ys → xs.Pairwise (· ≤ ·) → ys.Pairwise (· ≤ ·) → xs = ys
  | [], ys, p, _, _ => (List.nil_perm.mp p).symm
  | x :: xs, [], p, _, _ => by
    have := p.length_eq
    cases this
  | x :: xs, y :: ys, p, hx, hy => by
    obtain ⟨x1, x2⟩ := List.pairwise_cons.mp hx
    obtain ⟨y1, y2⟩ := List.pairwise_cons.mp hy
    have a : y ≤ x := by
      rcases List.mem_cons.mp (p.mem_iff.mp (List.mem_cons_self (a := x) (l := xs))) with e | e
      · omega
      · exact y1 x e
    have b : x ≤ y := by
      rcases List.mem_cons.mp (p.mem_iff.mpr (List.mem_cons_self (a := y) (l := ys))) with e | e
      · omega
      · exact x1 y e
    have e : x = y := by omega
    subst e
    rw [sorted_same (List.Perm.cons_inv p) x2 y2]
theorem sortI_eq {ns ns' : List Int} (p : ns'.Perm ns) (h : ns'.Pairwise (· ≤ ·)) : ns' = sortI ns := sorted_same (p.trans (sortI_perm ns).symm) h (sortI_sorted ns)

inductive Blt where
  | len | all | max | min | tuple | list | sorted | str | int
  deriving DecidableEq
def Blt.x : Blt → Str
  | .len => "len" | .all => "all" | .max => "max" | .min => "min" | .tuple => "tuple" | .list => "list" | .sorted => "sorted" | .str => "str" | .int => "int"
def Blt.v : Blt → Value
  | .len => .builtin "len" | .all => .builtin "all" | .max => .builtin "max" | .min => .builtin "min" | .sorted => .builtin "sorted"
  | .tuple => .type "tuple" | .list => .type "list" | .str => .type "str" | .int => .type "int"
def bltD : Blt → List D → Option Vl
  | .len, [.lst ds] => some (.d (.int ds.length))
  | .len, [.tup ds] => some (.d (.int ds.length))
  | .len, [.scr ns] => some (.d (.int ns.length))
  | .len, [.str x] => ift (decide (x.length ≤ lim)) (some (.d (.int x.length)))
  | .all, [.lst ds] => (asBls ds).map fun bs => .d (.bool (bs.all id))
  | .max, [.lst ds] => ((asInts ds).bind maxI).map fun m => .d (.int m)
  | .max, [.int i, .int j] => some (.d (.int (if j > i then j else i)))
  | .min, [.lst ds] => ((asInts ds).bind minI).map fun m => .d (.int m)
  | .min, [.int i, .int j] => some (.d (.int (if j < i then j else i)))
  | .tuple, [.lst ds] => some (.d (.tup ds))
  | .tuple, [.tup ds] => some (.d (.tup ds))
  | .list, [.lst ds] => some (.own ds)
  | .list, [.tup ds] => some (.own ds)
  | .sorted, [.lst ds] => (asInts ds).map fun ns => .own ((sortI ns).map .int)
  | .str, [.int i] => ift (smI i) (some (.d (.str (toString i))))
  | .int, [.str x] => ift (decide (x.length ≤ 640)) ((PySem.intText? x).map fun n => .d (.int n))
  | _, _ => none
def BlD (X : Cx) (f : Value) (op : List D → Option Vl) : Prop :=
  ∃ r, CallR X f r ∧ ∀ (F : Fx), F.K = X.K → ∀ (ρ : Rho) (σ : L2.St) (G H : Hp) (Q : VK) (vs : List V) (ds : List D), Rel F ρ σ G H → Dqs F.K G vs ds → Pu F ρ σ G H Q (op ds) → r vs H Q
section
variable {X : Cx} {w : Wi}
theorem dqs1 {K : PySem.W.Frag} {G : Hp} {vs : List V} {d : D} (h : Dqs K G vs [d]) : ∃ v, vs = [v] ∧ Dq K G v d := by
  cases h with
  | cons a b => cases b; exact ⟨_, rfl, a⟩
theorem dqs2 {K : PySem.W.Frag} {G : Hp} {vs : List V} {d e : D} (h : Dqs K G vs [d, e]) : ∃ v u, vs = [v, u] ∧ Dq K G v d ∧ Dq K G u e := by
  cases h with
  | cons a b => cases b with | cons c d => cases d; exact ⟨_, _, rfl, a, c⟩
theorem Pu.none {F : Fx} {ρ : Rho} {σ : L2.St} {G H : Hp} {Q : VK} {p : Prop} (h : Pu F ρ σ G H Q Option.none) : p := False.elim h
theorem Dqs.bls : ∀ {bs : List Bool} {vs : List V} {K : PySem.W.Frag} {G : Hp}, Dqs K G vs (bs.map D.bool) → vs = bs.map V.bl
  | [], _, _, _, .nil => rfl
  | _ :: _, _, _, _, .cons (.bl _) t => congrArg _ (Dqs.bls t)
theorem blt_len : BlD X (.builtin "len") (bltD .len) := by
  refine ⟨_, call_len_seq.or call_len_str, fun F hF ρ σ G H Q vs ds r n h => ?_⟩
  unfold bltD at h
  split at h
  · rename_i ds _
    obtain ⟨v, rfl, m⟩ := dqs1 n
    cases m with
    | lst h1 m1 => exact .inl ⟨_, _, rfl, .inl (SqL.of (r.gh _ _ h1)), by rw [m1.length]; exact h.d r (.int _)⟩
  · obtain ⟨v, rfl, m⟩ := dqs1 n
    cases m with
    | tup h1 m1 => exact .inl ⟨_, _, rfl, .inr (hF ▸ mem_G r h1), by rw [m1.length]; exact h.d r (.int _)⟩
  · obtain ⟨v, rfl, m⟩ := dqs1 n
    cases m with
    | scr h1 => exact .inl ⟨_, _, rfl, .inl (hF ▸ r.gh.seq h1), by rw [List.length_map]; exact h.d r (.int _)⟩
  · rename_i x _
    obtain ⟨v, rfl, m⟩ := dqs1 n
    obtain ⟨c, h⟩ := h.ift
    cases m with
    | str x => exact .inr ⟨x, rfl, lim_le (of_decide_eq_true c), h.d r (.int _)⟩
  all_goals first | contradiction | exact h.none | (exact False.elim h)
theorem blt_all (hc : X.calm = true) : BlD X (.builtin "all") (bltD .all) := by
  refine ⟨_, cr_all hc, fun F hF ρ σ G H Q vs ds r n h => ?_⟩
  unfold bltD at h
  split at h
  all_goals try contradiction
  · rename_i ds _
    obtain ⟨v, rfl, m⟩ := dqs1 n
    cases m with
    | @lst a xs ds h1 m1 =>
      cases e : asBls ds with
      | none => rw [e] at h; exact False.elim h
      | some bs =>
        rw [e] at h
        have e := asBls_ok e
        subst e
        have e := m1.bls
        subst e
        exact ⟨_, bs, rfl, SqL.of (r.gh _ _ h1), Pu.d r h (.bl _)⟩
theorem blt_max (hc : X.calm = true) : BlD X (.builtin "max") (bltD .max) := by
  refine ⟨_, (cr_max hc).or (call_max2 hc), fun F hF ρ σ G H Q vs ds r n h => ?_⟩
  unfold bltD at h
  split at h
  all_goals try contradiction
  · rename_i ds _
    obtain ⟨v, rfl, m⟩ := dqs1 n
    cases m with
    | @lst a xs ds h1 m1 =>
      cases e : asInts ds with
      | none => rw [e] at h; exact False.elim h
      | some ns =>
        rw [e] at h
        have h : Pu F ρ σ G H Q ((maxI ns).map fun m => .d (.int m)) := h
        cases em : maxI ns with
        | none => rw [em] at h; exact False.elim h
        | some k =>
          rw [em] at h
          have e := asInts_ok e
          subst e
          have e := m1.ints
          subst e
          refine .inl ⟨_, ns, rfl, SqL.of (r.gh _ _ h1), ?_, fun m hm hy => ?_⟩
          · cases ns with
            | nil => cases em
            | cons _ _ => exact Nat.succ_pos _
          · rw [maxI_eq em hm hy]
            exact Pu.d r h (.int _)
  · obtain ⟨v, u, rfl, m1, m2⟩ := dqs2 n
    cases m1
    cases m2
    exact .inr ⟨_, _, rfl, h.d r (.int _)⟩
theorem blt_min (hc : X.calm = true) : BlD X (.builtin "min") (bltD .min) := by
  refine ⟨_, (cr_min hc).or (call_min2 hc), fun F hF ρ σ G H Q vs ds r n h => ?_⟩
  unfold bltD at h
  split at h
  all_goals try contradiction
  · rename_i ds _
    obtain ⟨v, rfl, m⟩ := dqs1 n
    cases m with
    | @lst a xs ds h1 m1 =>
      cases e : asInts ds with
      | none => rw [e] at h; exact False.elim h
      | some ns =>
        rw [e] at h
        have h : Pu F ρ σ G H Q ((minI ns).map fun m => .d (.int m)) := h
        cases em : minI ns with
        | none => rw [em] at h; exact False.elim h
        | some k =>
          rw [em] at h
          have e := asInts_ok e
          subst e
          have e := m1.ints
          subst e
          refine .inl ⟨_, ns, rfl, SqL.of (r.gh _ _ h1), ?_, fun m hm hy => ?_⟩
          · cases ns with
            | nil => cases em
            | cons _ _ => exact Nat.succ_pos _
          · rw [minI_eq em hm hy]
            exact Pu.d r h (.int _)
  · obtain ⟨v, u, rfl, m1, m2⟩ := dqs2 n
    cases m1
    cases m2
    exact .inr ⟨_, _, rfl, h.d r (.int _)⟩
theorem blt_tuple : BlD X (.type "tuple") (bltD .tuple) := by
  refine ⟨_, call_tuple_of (X := X), fun F hF ρ σ G H Q vs ds r n h => ?_⟩
  unfold bltD at h
  split at h
  all_goals try contradiction
  · obtain ⟨v, rfl, m⟩ := dqs1 n
    cases m with
    | lst h1 m1 => exact ⟨_, _, rfl, .inl ⟨SqL.of (r.gh _ _ h1), fin_tup r m1 h⟩⟩
  · obtain ⟨v, rfl, m⟩ := dqs1 n
    cases m with
    | tup h1 m1 => exact ⟨_, _, rfl, .inr ⟨hF ▸ mem_G r h1, h.d r (.tup h1 m1)⟩⟩
theorem blt_list : BlD X (.type "list") (bltD .list) := by
  refine ⟨_, call_list_of (X := X), fun F hF ρ σ G H Q vs ds r n h => ?_⟩
  unfold bltD at h
  split at h
  all_goals try contradiction
  · obtain ⟨v, rfl, m⟩ := dqs1 n
    cases m with
    | lst h1 m1 => exact ⟨_, _, rfl, .inl (SqL.of (r.gh _ _ h1)), fin_lst r m1 h⟩
  · obtain ⟨v, rfl, m⟩ := dqs1 n
    cases m with
    | tup h1 m1 => exact ⟨_, _, rfl, .inr (hF ▸ mem_G r h1), fin_lst r m1 h⟩
theorem blt_sorted : BlD X (.builtin "sorted") (bltD .sorted) := by
  refine ⟨_, cr_sortedI (X := X), fun F hF ρ σ G H Q vs ds r n h => ?_⟩
  unfold bltD at h
  split at h
  all_goals try contradiction
  · rename_i ds _
    obtain ⟨v, rfl, m⟩ := dqs1 n
    cases m with
    | @lst a xs ds h1 m1 =>
      cases e : asInts ds with
      | none => rw [e] at h; exact False.elim h
      | some ns =>
        rw [e] at h
        have e := asInts_ok e
        subst e
        have e := m1.ints
        subst e
        refine ⟨_, ns, rfl, SqL.of (r.gh _ _ h1), fun ns' p hp hs => ?_⟩
        rw [sortI_eq hp hs]
        exact fin_lst r (dqs_ints _ _ _) h p
theorem log2_lt {i : Int} (h : smI i = true) : i.natAbs.log2 < 1920 := by
  have h := of_decide_eq_true h
  by_cases h0 : i.natAbs = 0
  · rw [h0]
    decide
  · have : i.natAbs.log2 < 64 := (Nat.log2_lt h0).mpr (by
      have e : (2 : Nat) ^ 64 = 18446744073709551616 := by decide
      rw [e]
      exact h)
    omega
theorem blt_str : BlD X (.type "str") (bltD .str) := by
  refine ⟨_, call_str_int (X := X), fun F hF ρ σ G H Q vs ds r n h => ?_⟩
  unfold bltD at h
  split at h
  all_goals try contradiction
  · rename_i i _
    obtain ⟨v, rfl, m⟩ := dqs1 n
    obtain ⟨c, h⟩ := h.ift
    cases m with
    | int i => exact ⟨i, rfl, log2_lt c, h.d r (.str _)⟩
theorem blt_int : BlD X (.type "int") (bltD .int) := by
  refine ⟨_, call_int_str (X := X), fun F hF ρ σ G H Q vs ds r n h => ?_⟩
  unfold bltD at h
  split at h
  all_goals try contradiction
  · rename_i x _
    obtain ⟨v, rfl, m⟩ := dqs1 n
    obtain ⟨c, h⟩ := h.ift
    cases m with
    | str x =>
      cases e : PySem.intText? x with
      | none => rw [e] at h; exact False.elim h
      | some k =>
        rw [e] at h
        exact ⟨x, k, rfl, e, of_decide_eq_true c, Pu.d r h (.int _)⟩
theorem blt_ok (hc : X.calm = true) (b : Blt) : BlD X b.v (bltD b) := by
  cases b with
  | len => exact blt_len
  | all => exact blt_all hc
  | max => exact blt_max hc
  | min => exact blt_min hc
  | tuple => exact blt_tuple
  | list => exact blt_list
  | sorted => exact blt_sorted
  | str => exact blt_str
  | int => exact blt_int
def vBlt (op : List D → Option Vl) (f : Rho → R (List D)) : Rho → R Vl := fun ρ => (f ρ).bind fun ds ρ1 => match op ds with
  | some a => .ok a ρ1
  | none => .bad
theorem blt_t {F : Fx} {op : List D → Option Vl} {f : Rho → R (List D)} {r : List V → Hp → VK → Prop} (hF : F.K = X.K) (hr : ∀ (F : Fx), F.K = X.K → ∀ (ρ : Rho) (σ : L2.St) (G H : Hp) (Q : VK) (vs : List V) (ds : List D), Rel F ρ σ G H → Dqs F.K G vs ds → Pu F ρ σ G H Q (op ds) → r vs H Q)
    (σ : L2.St) (H : Hp) (Q : VK) (h : tV F w (vBlt op f) σ H Q) : tCB r (tA F w f) σ H Q := by
  obtain ⟨ρ, G, rel, q⟩ := h
  refine ⟨ρ, G, rel, (Pa.bind q).imp fun vs H1 ⟨ds, ρ1, G1, s1, r1, n1, q1⟩ => hr F hF ρ1 σ G1 H1 Q vs ds r1 n1 ?_⟩
  cases e : op ds with
  | none => rw [e] at q1; exact q1.elim
  | some a => rw [e] at q1; exact q1
theorem sv_blt {b : Blt} {e : Expr} {es : List Expr} {f : Rho → R (List D)} {p pos : Pos} (hc : X.calm = true) (hg : Gl X b.x) (hm : X.mg b.x = none) (ha : SA X w (e :: es) f) (he : starEach (e :: es) X.env = (false, eval e X.env) :: starEach es X.env)
    (hpl : (backTo pos (starEach es X.env)).any (·.1) = false) : SV X w (.Call (.Name b.x p) (e :: es) [] pos) (vBlt (bltD b) f) := by
  obtain ⟨r, hr, hq⟩ := blt_ok hc b
  refine ⟨fun F hF => pe_weak (t := tCB r (tA F w f)) ?_ (blt_t hF hq)⟩
  cases b <;> first
    | exact pe_callB hr hg hm (by decide +kernel) (ha.r F hF) (by decide) (by decide) he hpl
    | exact pe_callTy hr hg hm (by decide +kernel) (ha.r F hF) (by decide) (by decide) he hpl
end
end PF
end
section
namespace PF
open PySem PySem.Spec PyProof.Rows L2

/-! enumerate, zip over lists and tuples in any mix (true: a list) -/
def SQ (k : Bool) (K : PySem.W.Frag) (H : Hp) (a : Addr) (xs : List V) : Prop := match k with
  | true => SqL K H a xs
  | false => SqT K H a xs
def IsQ (k : Bool) (h : Heap) (a : Addr) (its : Array Value) : Prop := match k with
  | true => h.IsList a its
  | false => h.IsTuple a its
def QIter (k : Bool) (h : Heap) (it a : Addr) (i : Nat) : Prop := match k with
  | true => h.IsListIter it a i
  | false => h.IsTupleIter it a i
def qObj (k : Bool) (a : Addr) : Obj := match k with
  | true => { cls := .type "list_iterator", data := .fields #[.ref a, .int 0 0] }
  | false => { cls := .type "tuple_iterator", data := .fields #[.ref a, .int 0 0] }
section
variable {k : Bool} {K : PySem.W.Frag} {H : Hp} {h h' : Heap} {a it : Addr} {i : Nat}
theorem QIter.obj (q : QIter k h it a i) : ∃ o, h.get? it = some o ∧ ∀ v, o.data ≠ .cell v := by
  cases k <;> exact let ⟨o, e, _, d⟩ := q; ⟨o, e, fun v z => by rw [d] at z; cases z⟩
theorem QIter.keep (q : QIter k h it a i) (e : ∀ o, h.get? it = some o → h'.get? it = some o) : QIter k h' it a i := by
  cases k
  · exact Heap.IsTupleIter.at q e
  · exact Heap.IsListIter.at q e
theorem qiter_new (k : Bool) (e : h.get? it = some (qObj k a)) : QIter k h it a 0 := by
  cases k <;> exact ⟨_, e, rfl, rfl⟩
theorem q_draws {prog : Program} {w : World} {A : Around} (k : Bool) (hh : A.handled = none) (it a : Addr) (ne : a ≠ it) (its : Array Value) :
    Draws prog w A it [it, a] its.size (fun i v => its[i]? = some v) (fun i h => QIter k h it a i ∧ IsQ k h a its) := by
  cases k
  · exact Draws.tuple hh it a ne its
  · exact Draws.list hh it a ne its
/-- at its end, or behind it -/
theorem q_ended {prog : Program} {w : World} {A : Around} (k : Bool) (hh : A.handled = none) (it a : Addr) (its : Array Value) (i : Nat) (le : its.size ≤ i) :
    Draws prog w A it [it, a] i (fun _ _ => True) (fun j h => j = i ∧ QIter k h it a i ∧ IsQ k h a its) where
  live := fun _ _ st => let ⟨o, ho, _⟩ := st.2.1.obj; ⟨o, ho⟩
  frame := fun _ _ _ st hk => by
    refine ⟨st.1, st.2.1.keep fun o e => hk it (by simp) o e, ?_⟩
    have q := st.2.2
    cases k
    · exact Heap.IsTuple.at q fun o e => hk a (by simp) o e
    · exact Heap.IsList.at q fun o e => hk a (by simp) o e
  item := fun j s Q E hj st hQ => absurd st.1 (Nat.ne_of_lt hj)
  done := fun s Q E st hE => by
    have e : its[i]? = none := Array.getElem?_eq_none le
    obtain ⟨_, q1, q2⟩ := st
    cases k
    · exact wpAny_nextOf_tuple_end hh q1 q2 e hE
    · exact wpAny_nextOf_list_end hh q1 q2 e hE
theorem q_rest {prog : Program} {w : World} {A : Around} (k : Bool) (hh : A.handled = none) (it a : Addr) (ne : a ≠ it) (its : Array Value) (i : Nat) :
    ∃ (n : Nat) (P : Nat → Value → Prop) (St : Nat → Heap → Prop), Draws prog w A it [it, a] n P St ∧ i ≤ n ∧ (its.size ≤ i → i = n) ∧ ∀ h, QIter k h it a i → IsQ k h a its → St i h := by
  by_cases le : its.size ≤ i
  · exact ⟨_, _, _, q_ended k hh it a its i le, Nat.le_refl _, fun _ => rfl, fun h a b => ⟨rfl, a, b⟩⟩
  · exact ⟨_, _, _, q_draws k hh it a ne its, Nat.le_of_lt (Nat.lt_of_not_le le), fun z => absurd z le, fun h a b => ⟨a, b⟩⟩
theorem q_begins (k : Bool) (a : Addr) (its : Array Value) : Begins (.ref a) (qObj k a) fun h => IsQ k h a its := by
  cases k
  · exact begins_tuple a its
  · exact begins_list a its
theorem Inv.q {X : Cx} {pins : List (Addr × Obj)} {σ : L2.St} {s : Shared} {xs : List V} (I : Inv X pins σ H s) (q : SQ k X.K H a xs) : ∃ its : List Value, Vals xs its ∧ IsQ k s.heap a its.toArray ∧ a < s.heap.objs.size := by
  cases k
  · obtain ⟨its, rv, p, _⟩ := I.tuple q
    obtain ⟨o, e, _⟩ := id p
    exact ⟨its, rv, p, Heap.lt_size e⟩
  · obtain ⟨its, rv, p, _⟩ := I.list q
    exact ⟨its, rv, p.isList, p.lt⟩
theorem Inv.q_inj {X : Cx} {pins : List (Addr × Obj)} {σ : L2.St} {s : Shared} {xs ys : List V} (I : Inv X pins σ H s) (q : SQ k X.K H a xs) (q' : SQ k X.K H a ys) : xs = ys := by
  cases k
  · exact I.tuple_inj q q'
  · exact I.list_inj q q'
end
def ItE (k : Bool) (K : PySem.W.Frag) (a : Addr) : It :=
  ⟨fun i H => ∃ (xs : List V) (x : V), SQ k K H a xs ∧ xs[i]? = some x, fun i H v H' => ∃ T x, v = .ref T ∧ H T = none ∧ H' = upd H T (.tup [.int (i : Nat), x]) ∧ ∀ xs, SQ k K H a xs → xs[i]? = some x, fun i H => ∃ xs : List V, SQ k K H a xs ∧ xs.length ≤ i⟩
def ItZ (k j : Bool) (K : PySem.W.Frag) (a b : Addr) : It :=
  ⟨fun i H => ∃ (xs ys : List V) (x y : V), SQ k K H a xs ∧ SQ j K H b ys ∧ xs[i]? = some x ∧ ys[i]? = some y,
    fun i H v H' => ∃ T x y, v = .ref T ∧ H T = none ∧ H' = upd H T (.tup [x, y]) ∧ (∀ xs, SQ k K H a xs → xs[i]? = some x) ∧ ∀ ys, SQ j K H b ys → ys[i]? = some y,
    fun i H => ∃ xs ys : List V, SQ k K H a xs ∧ SQ j K H b ys ∧ min xs.length ys.length ≤ i⟩
theorem turn_enumQ {P : Program} {w : World} {K : PySem.W.Frag} {elts : List Expr} {kk : Nat} {tpos : Pos} (k : Bool) {a e it : Addr} (nei : e ≠ it) (nea : e ≠ a) (nai : a ≠ it) :
    Turn P w K (.Tuple elts kk tpos) (ItE k K a) [e, it] e (fun i h => (∃ old, IsEnum h e it ((i : Nat) : Int) old) ∧ QIter k h it a i) where
  mem := List.mem_cons_self
  obj := fun i h st b hb => by
    obtain ⟨⟨old, he⟩, hi⟩ := st
    rcases List.mem_cons.mp hb with z | z
    · subst z
      exact ⟨_, he, fun v q => nomatch q⟩
    · have z := List.mem_singleton.mp z
      rw [z]
      exact hi.obj
  keep := fun i h h' st kp => let ⟨⟨old, he⟩, hi⟩ := st; ⟨⟨old, kp e List.mem_cons_self _ he⟩, hi.keep fun o q => kp it (List.mem_cons_of_mem _ List.mem_cons_self) o q⟩
  item := by
    intro X hP hw hK hc i pins s σ H E I hf st hg
    subst hP hw hK
    obtain ⟨⟨old, he⟩, hit⟩ := st
    obtain ⟨xs, x, hq, hx⟩ := hg
    obtain ⟨its, rv, p, al⟩ := Inv.q I hq
    obtain ⟨u, hu, ru⟩ := rv.get hx
    obtain ⟨oi, ei, _⟩ := hit.obj
    have hel : e < s.heap.objs.size := Heap.lt_size he
    have hil : it < s.heap.objs.size := Heap.lt_size ei
    have hlt : i < its.toArray.size := by
      have := (List.getElem?_eq_some_iff.mp hu).1
      simpa using this
    refine wpAny_pyNext_enum_itemD (q_draws k (A := X.A.in1) (I.ok.hd hc) it a nai its.toArray) he ⟨hit, p⟩ hlt nei (by simp [nei, nea]) fun x' h' tk hP ho st' hT hsz hk => ?_
    have ex : x' = u := by
      have : its.toArray[i]? = some u := by simpa using hu
      rw [this] at hP
      exact (Option.some.inj hP).symm
    subst ex
    refine ⟨_, rfl, wpAny_letOwnedTupleGo_enum (s := { s with heap := h', toks := tk + 1 }) ho fun h'' he' sb => ?_⟩
    have hT2 : h''.get? s.heap.objs.size = some { cls := .type "tuple", data := .seq #[.int i tk, x'] } := (sb.2 _ (Nat.ne_of_gt hel)).trans hT
    have new : ObjOk X.prog X.w (upd H s.heap.objs.size (.tup [.int (i : Nat), x])) h'' s.heap.objs.size (.tup [.int (i : Nat), x]) :=
      ⟨by show 2 ≤ sizeLine; decide, [.int i tk, x'], .cons ⟨_, rfl⟩ (.cons ru .nil), ⟨_, hT2, rfl, _, rfl⟩⟩
    have I1 := I.turnedNew (t' := tk + 1) (ch := [e, it]) (fun b ob hb q => (sb.2 b (fun z => hb (by simp [z]))).trans (hk b ob (fun z => hb (by simp [z])) (fun z => hb (by simp [z])) q)) hf (Nat.le_refl _) new
    refine ⟨.ref s.heap.objs.size, _, I1, rfl, ⟨_, x, rfl, I.hok.fresh (Nat.le_refl _), rfl, fun ys hy => by rw [Inv.q_inj I hy hq]; exact hx⟩, ⟨⟨x', ?_⟩, st'.1.keep fun o q => (sb.2 it (Ne.symm nei)).trans q⟩, fun b hb => ?_⟩
    · rw [show ((i + 1 : Nat) : Int) = (i : Int) + 1 by omega]
      exact he'
    · have hb' : b < s.heap.objs.size := by
        rcases List.mem_cons.mp hb with z | z
        · rw [z]; exact hel
        · rw [List.mem_singleton.mp z]; exact hil
      rw [upd_ne (Nat.ne_of_lt hb')]
      exact (hf b hb).1
  done := by
    intro X hP hw hK hc i pins s σ H E I hf st hg
    subst hP hw hK
    obtain ⟨⟨old, he⟩, hit⟩ := st
    obtain ⟨xs, hq, hx⟩ := hg
    obtain ⟨its, rv, p, al⟩ := Inv.q I hq
    obtain ⟨f0, f1, f2, f3, f4, f5⟩ := hf it (List.mem_cons_of_mem _ List.mem_cons_self)
    have e : its.toArray.size ≤ i := by
      have := rv.length
      simp
      omega
    exact wpAny_pyNext_enum_endD (q_ended k (A := X.A.in1) (I.ok.hd hc) it a its.toArray i e) he ⟨rfl, hit, p⟩ fun h' eb => ⟨rfl, I.turned (t' := s.toks) (fun b o hb q => eb b o hb q) f0 f1 f3 f4 f5⟩
  self := fun A i s Q E st h => let ⟨⟨_, he⟩, _⟩ := st; wpAny_pyIter_enum he h
set_option maxHeartbeats 1000000 in
theorem enum_new1 {v : Value} {o : Obj} {J : Heap → Prop} (B : Begins v o J) :
    Meets (Builtin.«enumerate.__new__» ⟨[.type "enumerate", v], []⟩) (fun _ R s => J s.heap ∧
      R (.ok (.ret (.ref (s.heap.push o).objs.size))) { s with heap := (s.heap.push o).push { cls := .type "enumerate", data := .fields #[.none, .bool false, .ref s.heap.objs.size, rawInt 0, .none, .none] } }) :=
  .of_wp fun prog w A R s h => by
    obtain ⟨hp, g, d, tk, os⟩ := s
    obtain ⟨h1, h⟩ := h
    have hsub := sub_enumerate
    have q1 : ∀ {A' : Around} {E : Value → Shared → Prop} {Q : Value → Shared → Prop}, Q (.ref hp.objs.size) ⟨hp.push o, g, d, tk, os⟩ → wpAny (model prog w) A' (pyIter v) Q E ⟨hp, g, d, tk, os⟩ :=
      fun q => B.iter prog w _ _ ⟨hp, g, d, tk, os⟩ _ h1 q
    wp_walk using q1
    refine wpAny_stack_any fun st => wpAny_pure ?_
    split
    · rename_i c _ _ _ _ _
      cases (c == Value.type "enumerate") <;> (wp_walk using q1; exact ⟨_, rfl, h⟩)
    · wp_walk using q1
      exact ⟨_, rfl, h⟩
theorem enum_call {prog : Program} {w : World} {A : Around} {E : Value → Shared → Prop} {s : Shared} {v : Value} {o : Obj} {J : Heap → Prop} {Q : Value → Shared → Prop} (B : Begins v o J) (h1 : J s.heap)
    (h : ∀ h', IsEnum h' (s.heap.objs.size + 1) s.heap.objs.size 0 .none → h'.get? s.heap.objs.size = some o → (∀ b o, s.heap.get? b = some o → h'.get? b = some o) → Q (.ref (s.heap.objs.size + 1)) { s with heap := h' }) :
    wpAny (model prog w) A (call (.type "enumerate") [v]) Q E s := by
  refine callType_new F.called_enumerate (by decide) (F.typeCall_enumerate_1 _) (F.newCall_enumerate_1 _) (fun obj => F.args_object_init_2 obj _) F.entry_enumerate_new (enum_new1 B) ⟨h1, ?_⟩
  have hz : (s.heap.push o).objs.size = s.heap.objs.size + 1 := Heap.size_push ..
  show _ ∧ _
  rw [hz]
  have he : IsEnum ((s.heap.push o).push { cls := .type "enumerate", data := .fields #[.none, .bool false, .ref s.heap.objs.size, rawInt 0, .none, .none] }) (s.heap.objs.size + 1) s.heap.objs.size 0 .none := by
    have z := Heap.get?_push_size (s.heap.push o) (o := { cls := .type "enumerate", data := .fields #[.none, .bool false, .ref s.heap.objs.size, rawInt 0, .none, .none] }) rfl
    rwa [hz] at z
  exact ⟨⟨_, he, rfl⟩, h _ he (Heap.get?_push_of_some _ (Heap.get?_push_size _ B.free)) fun b o x => Heap.get?_push_of_some _ (Heap.get?_push_of_some _ x)⟩
theorem turn_zipQ {P : Program} {w : World} {K : PySem.W.Frag} {elts : List Expr} {kk : Nat} {tpos : Pos} (k j : Bool) {a b z TI TO i1 i2 : Addr} (S : ZipSep2 z TI TO i1 i2 [i1, a] [i2, b]) (n1 : a ≠ i1) (n2 : b ≠ i2) :
    Turn P w K (.Tuple elts kk tpos) (ItZ k j K a b) [z, TI, TO, i1, i2] z (fun i h => IsZip h z TI TO .none ∧ IsTupOf2 h TI (.ref i1) (.ref i2) ∧ (∃ x y, IsTupOf2 h TO x y) ∧ QIter k h i1 a i ∧ QIter j h i2 b i) where
  mem := List.mem_cons_self
  obj := fun i h st c hc => by
    obtain ⟨hz, hTI, ⟨x, y, hTO⟩, q1, q2⟩ := st
    simp only [List.mem_cons, List.not_mem_nil, or_false] at hc
    rcases hc with q | q | q | q | q <;> subst q
    · exact ⟨_, hz, fun v q => nomatch q⟩
    · exact ⟨_, hTI, fun v q => nomatch q⟩
    · exact ⟨_, hTO, fun v q => nomatch q⟩
    · exact q1.obj
    · exact q2.obj
  keep := fun i h h' st kp => by
    obtain ⟨hz, hTI, ⟨x, y, hTO⟩, h1, h2⟩ := st
    exact ⟨kp z (by simp) _ hz, kp TI (by simp) _ hTI, ⟨x, y, kp TO (by simp) _ hTO⟩, h1.keep fun o q => kp i1 (by simp) o q, h2.keep fun o q => kp i2 (by simp) o q⟩
  item := by
    intro X hP hw hK hc i pins s σ H E I hf st hg
    subst hP hw hK
    obtain ⟨hz, hTI, ⟨x0, y0, hTO⟩, h1, h2⟩ := st
    obtain ⟨xs, ys, x, y, hqx, hqy, hx, hy⟩ := hg
    obtain ⟨its, rv, p, _⟩ := Inv.q I hqx
    obtain ⟨its2, rv2, p2, _⟩ := Inv.q I hqy
    obtain ⟨u, hu, ru⟩ := rv.get hx
    obtain ⟨u2, hu2, ru2⟩ := rv2.get hy
    have hzl : z < s.heap.objs.size := Heap.lt_size hz
    have l1 : i < its.toArray.size := by simpa using (List.getElem?_eq_some_iff.mp hu).1
    have l2 : i < its2.toArray.size := by simpa using (List.getElem?_eq_some_iff.mp hu2).1
    refine wpAny_pyNext_zipD2_item S (q_draws k (A := X.A.in1) (I.ok.hd hc) i1 a n1 its.toArray) (q_draws j (A := X.A.in1) (I.ok.hd hc) i2 b n2 its2.toArray) hz hTI hTO ⟨h1, p⟩ ⟨h2, p2⟩ l1 l2 fun x1 x2 h' tk e1 e2 z' TO' st1 st2 hT hsz hk => ?_
    have e1 : x1 = u := by
      have : its.toArray[i]? = some u := by simpa using hu
      rw [this] at e1
      exact (Option.some.inj e1).symm
    have e2 : x2 = u2 := by
      have : its2.toArray[i]? = some u2 := by simpa using hu2
      rw [this] at e2
      exact (Option.some.inj e2).symm
    subst e1 e2
    refine ⟨_, rfl, wpAny_letOwnedTupleGo_zip (s := { s with heap := h', toks := tk }) z' fun h'' z'' sb => ?_⟩
    have hT2 : h''.get? s.heap.objs.size = some { cls := .type "tuple", data := .seq #[x1, x2] } := (sb.2 _ (Nat.ne_of_gt hzl)).trans hT
    have new : ObjOk X.prog X.w (upd H s.heap.objs.size (.tup [x, y])) h'' s.heap.objs.size (.tup [x, y]) :=
      ⟨by show 2 ≤ sizeLine; decide, [x1, x2], .cons ru (.cons ru2 .nil), ⟨_, hT2, rfl, _, rfl⟩⟩
    have I1 := I.turnedNew (t' := tk) (ch := [z, TI, TO, i1, i2]) (fun c o hb q => (sb.2 c (fun q' => hb (by simp [q']))).trans (hk c o (fun q' => hb (by simp [q'])) (fun q' => hb (by simp [q'])) (fun q' => hb (by simp [q'])) (fun q' => hb (by simp [q'])) q)) hf (Nat.le_refl _) new
    refine ⟨.ref s.heap.objs.size, _, I1, rfl, ⟨_, x, y, rfl, I.hok.fresh (Nat.le_refl _), rfl, fun l hl => by rw [Inv.q_inj I hl hqx]; exact hx, fun l hl => by rw [Inv.q_inj I hl hqy]; exact hy⟩, ⟨z'', (sb.2 _ S.TIz).trans (hk _ _ S.TIz S.TITO S.TIi1 S.TIi2 hTI), ⟨x1, x2, (sb.2 _ S.TOz).trans TO'⟩, st1.1.keep fun o q => (sb.2 _ (Ne.symm S.zi1)).trans q, st2.1.keep fun o q => (sb.2 _ (Ne.symm S.zi2)).trans q⟩, fun c hcm => ?_⟩
    have hlt : c < s.heap.objs.size := by
      have hcm2 := hcm
      simp only [List.mem_cons, List.not_mem_nil, or_false] at hcm2
      rcases hcm2 with q | q | q | q | q <;> subst q
      · exact hzl
      · exact Heap.lt_size hTI
      · exact Heap.lt_size hTO
      · obtain ⟨_, e1, _⟩ := h1.obj; exact Heap.lt_size e1
      · obtain ⟨_, e2, _⟩ := h2.obj; exact Heap.lt_size e2
    rw [upd_ne (Nat.ne_of_lt hlt)]
    exact (hf c hcm).1
  done := by
    intro X hP hw hK hc i pins s σ H E I hf st hg
    subst hP hw hK
    obtain ⟨hz, hTI, ⟨x0, y0, hTO⟩, h1, h2⟩ := st
    obtain ⟨xs, ys, hqx, hqy, hend⟩ := hg
    obtain ⟨its, rv, p, _⟩ := Inv.q I hqx
    obtain ⟨its2, rv2, p2, _⟩ := Inv.q I hqy
    have l1 : its.toArray.size = xs.length := by simp [rv.length]
    have l2 : its2.toArray.size = ys.length := by simp [rv2.length]
    obtain ⟨m1, P1, S1, D1, g1, t1, u1⟩ := q_rest (prog := X.prog) (w := X.w) k (A := X.A.in1) (I.ok.hd hc) i1 a n1 its.toArray i
    obtain ⟨m2, P2, S2, D2, g2, t2, u2⟩ := q_rest (prog := X.prog) (w := X.w) j (A := X.A.in1) (I.ok.hd hc) i2 b n2 its2.toArray i
    have fin : i = m1 ∨ i = m2 := by
      rcases Nat.le_total its.toArray.size its2.toArray.size with z | z
      · exact .inl (t1 (by omega))
      · exact .inr (t2 (by omega))
    exact wpAny_pyNext_zipD2_end S D1 D2 hz hTI hTO (u1 _ h1 p) (u2 _ h2 p2) g1 g2 fin fun h' tk hk => ⟨rfl, I.turnedL (t' := tk) (ch := [z, TI, TO, i1, i2]) (fun c o hb q =>
      hk c o (fun q' => hb (by simp [q'])) (fun q' => hb (by simp [q'])) (fun q' => hb (by simp [q'])) (fun q' => hb (by simp [q'])) q) hf⟩
  self := fun A i s Q E st h => wpAny_pyIter_zip st.1 h
def iEnumQ (K : PySem.W.Frag) (ta : TA) : TI := fun σ H R => ta σ H fun vs H1 => ∃ k a xs, vs = [.ref a] ∧ SQ k K H1 a xs ∧ R (ItE k K a) H1
theorem pi_enumQ {X : Cx} {e : Expr} {ta : TA} {p pos tpos : Pos} {elts : List Expr} {kk : Nat} (hg : Gl X "enumerate") (hm : X.mg "enumerate" = none) (ha : PA X [e] ta) (hs : starEach [e] X.env = [(false, eval e X.env)]) :
    PI X (.Tuple elts kk tpos) (.Call (.Name "enumerate" p) [e] [] pos) (iEnumQ X.K ta) := by
  refine ⟨fun pins s σ H R I h => Call_ (ld_blt I hg hm boot_enumerate (PyProof.Rows.callWith_type1 (thn (ha.run pos pins s σ H _ I h) fun us s1 ⟨vs, H1, I1, r1, k, a, xs, ex, hq, q⟩ => ?_) hs rfl))⟩
  subst ex
  obtain ⟨u, rfl, r⟩ := vals1 r1
  cases r
  obtain ⟨its, rv, p', al⟩ := Inv.q I1 hq
  refine enum_call (q_begins k a its.toArray) p' fun h' he hit hk => wpAny_pyIter_enum he ?_
  have I2 : Inv X pins σ H1 { s1 with heap := h' } := I1.kept (t' := s1.toks) hk
  refine ⟨s1.heap.objs.size + 1, [s1.heap.objs.size + 1, s1.heap.objs.size], _, _, H1, rfl, I2, turn_enumQ k (a := a) (e := s1.heap.objs.size + 1) (it := s1.heap.objs.size) (Nat.succ_ne_self _) (Nat.ne_of_gt (Nat.lt_succ_of_lt al)) (Nat.ne_of_lt al), ⟨⟨.none, he⟩, qiter_new k hit⟩, fun b hb => ?_, q⟩
  have hle : s1.heap.objs.size ≤ b := by
    rcases List.mem_cons.mp hb with z | z
    · rw [z]; exact Nat.le_add_right _ _
    · rw [List.mem_singleton.mp z]; exact Nat.le_refl _
  exact I1.fpOk hle (I1.hok.fresh hle)
def iZipQ (K : PySem.W.Frag) (ta : TA) : TI := fun σ H R => ta σ H fun vs H1 => ∃ k j a b xs ys, vs = [.ref a, .ref b] ∧ SQ k K H1 a xs ∧ SQ j K H1 b ys ∧ R (ItZ k j K a b) H1
theorem pi_zipQ {X : Cx} {e e2 : Expr} {ta : TA} {p pos tpos : Pos} {elts : List Expr} {kk : Nat} (hg : Gl X "zip") (hm : X.mg "zip" = none) (ha : PA X [e, e2] ta)
    (hs : starEach [e, e2] X.env = (false, eval e X.env) :: starEach [e2] X.env) (hpl : (backTo pos (starEach [e2] X.env)).any (·.1) = false) :
    PI X (.Tuple elts kk tpos) (.Call (.Name "zip" p) [e, e2] [] pos) (iZipQ X.K ta) := by
  refine ⟨fun pins s σ H R I h => Call_ (ld_blt I hg hm PyProof.Rows.boot_zip (PyProof.Rows.callWith_type1 (thn (ha.run pos pins s σ H _ I h) fun us s1 ⟨vs, H1, I1, r1, k, j, a, b, xs, ys, ex, hqx, hqy, q⟩ => ?_) hs hpl))⟩
  subst ex
  obtain ⟨u, u', rfl, r, r'⟩ := vals2 r1
  cases r
  cases r'
  obtain ⟨its, rv, p1, la⟩ := Inv.q I1 hqx
  obtain ⟨its2, rv2, p2, lb⟩ := Inv.q I1 hqy
  refine zip_begins2 (q_begins k a its.toArray) (q_begins j b its2.toArray) p1 p2 fun h' hz hTI hTO h1 h2 hsz hk => wpAny_pyIter_zip hz ?_
  have I2 : Inv X pins σ H1 { s1 with heap := h' } := I1.kept (t' := s1.toks) hk
  refine ⟨s1.heap.objs.size + 4, [s1.heap.objs.size + 4, s1.heap.objs.size + 2, s1.heap.objs.size + 3, s1.heap.objs.size, s1.heap.objs.size + 1], _, _, H1, rfl, I2,
    turn_zipQ k j (zip_sep2 (fp1 := [a]) (fp2 := [b]) (fun c hc => by rw [List.mem_singleton.mp hc]; exact la) (fun c hc => by rw [List.mem_singleton.mp hc]; exact lb)) (Nat.ne_of_lt la) (Nat.ne_of_lt (Nat.lt_succ_of_lt lb)), ⟨hz, hTI, ⟨_, _, hTO⟩, qiter_new k h1, qiter_new j h2⟩, fun c hcm => ?_, q⟩
  have hle : s1.heap.objs.size ≤ c := by
    simp only [List.mem_cons, List.not_mem_nil, or_false] at hcm
    rcases hcm with q | q | q | q | q <;> rw [q] <;> first | exact Nat.le_refl _ | exact Nat.le_add_right _ _
  exact I1.fpOk hle (I1.hok.fresh hle)
end PF
end
section
namespace PF
open PySem PySem.Spec PyProof.Rows L2

/-! isinstance of data -/
inductive Ty4 where
  | int | bool | tuple | str
def Ty4.s : Ty4 → String
  | .int => "int" | .bool => "bool" | .tuple => "tuple" | .str => "str"
def Ty4.x : Ty4 → Str
  | .int => "int" | .bool => "bool" | .tuple => "tuple" | .str => "str"
def isiT : Ty4 → D → Option Bool
  | _, .scr _ => none
  | .int, .int _ => some true
  | .int, .bool _ => some true
  | .bool, .bool _ => some true
  | .tuple, .tup _ => some true
  | .str, .str _ => some true
  | _, _ => some false
def D.tyn : D → String
  | .none => "NoneType" | .bool _ => "bool" | .int _ => "int" | .str _ => "str" | .lst _ => "list" | .tup _ => "tuple" | .scr _ => "list"
theorem kit_all : ∀ (t : Ty4) (n : String) (b : Bool), ((n = "NoneType" ∧ b = false) ∨ (n = "bool" ∧ b = (match t with | .int => true | .bool => true | _ => false)) ∨ (n = "int" ∧ b = (match t with | .int => true | _ => false)) ∨ (n = "str" ∧ b = (match t with | .str => true | _ => false)) ∨
    (n = "list" ∧ b = false) ∨ (n = "tuple" ∧ b = (match t with | .tuple => true | _ => false))) → kitB n t.s = some b := by
  intro t n b h
  cases t <;> rcases h with ⟨rfl, rfl⟩ | ⟨rfl, rfl⟩ | ⟨rfl, rfl⟩ | ⟨rfl, rfl⟩ | ⟨rfl, rfl⟩ | ⟨rfl, rfl⟩ <;> decide +kernel
theorem isi_kit {t : Ty4} {d : D} {b : Bool} (h : isiT t d = some b) : kitB d.tyn t.s = some b := by
  refine kit_all t d.tyn b ?_
  cases d <;> cases t <;> first
    | (cases h; done)
    | (have h := Option.some.inj h; subst h; simp [D.tyn])
def D.notScr : D → Prop
  | .scr _ => False
  | _ => True
theorem Dq.ty {K : PySem.W.Frag} {G : Hp} {v : V} {d : D} (n : Dq K G v d) (h : d.notScr) : TyX K G v (.type d.tyn) := by
  cases n with
  | non => exact .base .non
  | bl b => exact .base (.bl b)
  | int i => exact .base (.int i)
  | str x => exact .base (.str x)
  | lst h1 _ => exact .base (.lst h1)
  | tup h1 _ =>
    rcases h1 with (h1 | ⟨o, h1⟩) | ⟨o, its, n, h1, hc, _⟩
    · exact .base (.tup h1)
    · exact .fTuple h1
    · exact .kTuple h1 hc
  | scr _ => exact h.elim
section
variable {X : Cx} {w : Wi}
def vIsi (t : Ty4) (f : Rho → R D) : Rho → R Vl := fun ρ => (f ρ).bind fun x ρ1 => match isiT t x with
  | some b => .ok (.d (.bool b)) ρ1
  | none => .bad
theorem ty4_boot (t : Ty4) : bootBuiltins t.x = some (.type t.s) := by cases t <;> decide +kernel
theorem sv_isi {a : Expr} {t : Ty4} {f : Rho → R D} {p p2 pos : Pos} (hg : Gl X "isinstance") (hm : X.mg "isinstance" = none) (hg2 : Gl X t.x) (hm2 : X.mg t.x = none) (ha : SE X w a f)
    (he : starEach [a, .Name t.x p2] X.env = (false, eval a X.env) :: starEach [.Name t.x p2] X.env) : SV X w (.Call (.Name "isinstance" p) [a, .Name t.x p2] [] pos) (vIsi t f) := by
  have ht : PE X (.Name t.x p2) (tC (.ty t.s)) := pe_bltn hg2 hm2 (ty4_boot t) rfl (by cases t <;> decide) (by cases t <;> decide)
  refine ⟨fun F hF => pe_weak (pe_callB call_isi hg hm (by decide +kernel) (pa_cons (ha.r F hF) (pa_cons ht pa_nil) he) (by decide) (by decide) he rfl) fun σ H Q ⟨ρ, G, r, q⟩ => ⟨ρ, G, r, (Po.bind q).imp fun v H1 ⟨x, ρ1, G1, s1, r1, n1, q1⟩ => ?_⟩⟩
  cases e : isiT t x with
  | none => rw [e] at q1; exact q1.elim
  | some b =>
    rw [e] at q1
    have hx : x.notScr := by
      cases x <;> first | trivial | (cases t <;> cases e)
    exact ⟨v, .ty t.s, .type x.tyn, .type t.s, b, rfl, .ty _, hF ▸ (n1.toH r1).ty hx, kit_ty (isi_kit e), q1 _ G1 H1 (Same.refl _) r1 (.bl b)⟩

/-! own functions -/
inductive RF where
  | ok (d : D) (io : List D) | exc (c : Nat) | bad
def RpP (K : PySem.W.Frag) (ec : Nat → Addr) (G H : Hp) (Q : VK) (E : XK) : RF → Prop
  | .ok d _ => ∀ v G' H', Same G G' → Same G' H' → Same H H' → (∀ a o, G' a = some o → G a = some o ∨ H a = none) → Dq K G' v d → Q v H'
  | .exc c => ∀ H', Same H H' → E (.ref (ec c)) none H'
  | .bad => False
def spP (K : PySem.W.Frag) (ec : Nat → Addr) (n : Nat) (sem : List D → RF) : Sp := fun vs H Q E => vs.length = n ∧ ∃ G ds, Same G H ∧ Dqs K G vs ds ∧ RpP K ec G H Q E (sem ds)
def RpI (K : PySem.W.Frag) (p : Addr) (G H : Hp) (Q : VK) : RF → Prop
  | .ok d io => ∀ v G' H' ws, Same G G' → Same G' H' → (∀ a o, a ≠ p → H a = some o → H' a = some o) → (∀ a o, G' a = some o → G a = some o ∨ H a = none) → H' p = some (.lst ws) → Dqs K G' ws io → Dq K G' v d → Q v H'
  | _ => False
def spI (K : PySem.W.Frag) (n : Nat) (sem : List D → List D → RF) : Sp := fun vs H Q _ => vs.length = n ∧ ∃ G v0 p ws us d0 io ds, vs = v0 :: .ref p :: us ∧ Same G H ∧ Dq K G v0 d0 ∧ G p = none ∧ H p = some (.lst ws) ∧ Dqs K G ws io ∧ Dqs K G us ds ∧ RpI K p G H Q (sem io (d0 :: ds))
def callP (n : Nat) (sem : List D → RF) (f : Rho → R (List D)) : Rho → R Vl := fun ρ => (f ρ).bind fun ds ρ1 => if ds.length = n then (match sem ds with
  | .ok d _ => .ok (.d d) ρ1
  | .exc c => .exc c ρ1
  | .bad => .bad) else .bad
/-- behind a call of a plain def -/
theorem Rel.after {F : Fx} {ρ : Rho} {σ : L2.St} {G G' H H' : Hp} (r : Rel F ρ σ G H) (s : Same G G') (g : Same G' H') (h : Same H H') (n : ∀ a o, G' a = some o → G a = some o ∨ H a = none) : Rel F ρ σ G' H' :=
  r.grow s g (r.h0.trans h) (fun a o e => (n a o e).elim (fun e => r.g0 a o e) fun e => .inr (r.h0.free e)) fun i p hd => by
    obtain ⟨t, e, e2, e3, m, _⟩ := r.hd hd
    obtain ⟨o, eo⟩ := m.some
    refine ⟨(h p o eo).trans eo.symm, ?_⟩
    cases q : G' p with
    | none => rfl
    | some u =>
      rcases n p u q with z | z
      · rw [e2] at z; cases z
      · rw [eo] at z; cases z
theorem sv_call {k n : Nat} {f : Addr} {fd : FuncData} {ps : List Str} {sem : List D → RF} {x : Str} {p pos : Pos} {e : Expr} {es : List Expr} {g : Rho → R (List D)} (F : FnOk X.prog X.w X.K X.mg X.base (CX X.prog X.w) k f fd ps (spP X.K w.ec n sem)) (hr : Room k X.A) (hg : Gl X x) (hm : X.mg x = some (.ref f))
    (hk : PySem.W.keepIn X.K (.ref f) = true) (hb : L2.Binds X.K fd ps []) (tk : Takes X w.W) (ha : SA X w (e :: es) g) (hd : (x == ("__debug__" : Str)) = false) (he : starEach (e :: es) X.env = (false, eval e X.env) :: starEach es X.env)
    (hpl : (backTo pos (starEach es X.env)).any (·.1) = false) : SV X w (.Call (.Name x p) (e :: es) [] pos) (callP n sem g) :=
  ⟨fun F' hF => pe_weak (pe_callS F hr hg hm hk hb (fun σ => passAt tk σ) (ha.r F' hF) hd he hpl) fun σ H Q ⟨ρ, G, r, q⟩ => ⟨ρ, G, r, (Pa.bind q).imp fun vs H1 ⟨ds, ρ1, G1, s1, r1, n1, q1⟩ => by
    by_cases hl : ds.length = n
    · rw [if_pos hl] at q1
      refine ⟨n1.length.trans hl, G1, ds, r1.gh, hF ▸ n1, ?_⟩
      cases es : sem ds with
      | bad => rw [es] at q1; exact q1.elim
      | exc c =>
        rw [es] at q1
        intro H2 h2
        exact q1 G1 H2 (Same.refl _) (r1.after (Same.refl _) (r1.gh.trans h2) h2 fun a o e => .inl e)
      | ok d io =>
        rw [es] at q1
        intro v G2 H2 s2 g2 h2 n2 dq
        exact q1 v G2 H2 s2 (r1.after s2 g2 h2 n2) (show Dq F'.K G2 v d from hF ▸ dq)
    · rw [if_neg hl] at q1
      exact q1.elim⟩⟩
/-- behind a call that writes the list of a slot -/
theorem Rel.afterIo {F : Fx} {ρ : Rho} {σ : L2.St} {G G' H H' : Hp} {i : Nat} {p : Addr} {s s' : Sl} {ws vs : List V} {io : List D} (r : Rel F ρ σ G H) (e : ρ[i]? = some s) (hm : s.mu = true) (hp : σ[i]? = some (some (.ref p))) (hH : H p = some (.lst ws)) (sm : Same G G') (g : Same G' H')
    (h : ∀ a o, a ≠ p → H a = some o → H' a = some o) (n : ∀ a o, G' a = some o → G a = some o ∨ H a = none) (hv : H' p = some (.lst vs)) (hd : Dqs F.K G' vs io) (hs : s' = .own io ∨ s' = .io io) (hio : s'.isIo = s.isIo) : Rel F (ρ.set i s') σ G' H' := by
  obtain ⟨s1, e1, hg, h0, m0, hi⟩ := r.hd ⟨s, e, hm, hp⟩
  have gp : G' p = none := by
    cases q : G' p with
    | none => rfl
    | some u =>
      rcases n p u q with z | z
      · rw [hg] at z; cases z
      · rw [hH] at z; cases z
  have e2 : upd (upd H' p (.lst ws)) p (.lst vs) = H' := by
    rw [upd_upd]
    funext a
    by_cases ha : a = p
    · rw [ha, upd_same, hv]
    · rw [upd_ne ha]
  have r1 : Rel F ρ σ G' (upd H' p (.lst ws)) := by
    refine r.grow sm (fun a o q => ?_) (fun a o q => ?_) (fun a o q => (n a o q).elim (fun z => r.g0 a o z) fun z => .inr (r.h0.free z)) fun j q hd => ?_
    · rw [upd_ne (ne_of_none q gp)]; exact g a o q
    · have ne := ne_of_none q h0
      rw [upd_ne ne]
      exact h a o ne (r.h0 a o q)
    · obtain ⟨t, _, e2, e3, m, _⟩ := r.hd hd
      obtain ⟨o, eo⟩ := m.some
      refine ⟨?_, ?_⟩
      · by_cases hq : q = p
        · rw [hq, upd_same, hH]
        · rw [upd_ne hq, h q o hq eo, eo]
      · cases z : G' q with
        | none => rfl
        | some u =>
          rcases n q u z with y | y
          · rw [e2] at y; cases y
          · rw [eo] at y; cases y
  rw [← e2]
  refine r1.write e hm hp hio ?_
  rcases hs with z | z <;> rw [z] <;> exact ⟨vs, upd_same, hd⟩
def ioOf : Option Sl → Option (List D × (List D → Sl))
  | some (.own ds) => some (ds, .own)
  | some (.io ds) => some (ds, .io)
  | _ => none
/-- f(a0, x, ..) where f writes the list x (a local name) -/
def callI (n : Nat) (sem : List D → List D → RF) (i : Nat) (f : Rho → R D) (g : Rho → R (List D)) : Rho → R Vl := fun ρ => if (ioOf ρ[i]?).isSome = true then (f ρ).bind fun d0 ρ1 => (g ρ1).bind fun ds ρ2 => if ds.length + 2 = n then (match ioOf ρ2[i]? with
  | some (io, mk) => (match sem io (d0 :: ds) with
    | .ok d io' => .ok (.d d) (ρ2.set i (mk io'))
    | _ => .bad)
  | none => .bad) else .bad else .bad
theorem ioOf_hasV {o : Option Sl} (h : (ioOf o).isSome = true) : hasV o = true := by
  cases o with
  | none => cases h
  | some s => cases s <;> first | rfl | cases h
theorem sv_callI {k n i : Nat} {f : Addr} {fd : FuncData} {ps : List Str} {sem : List D → List D → RF} {x y : Str} {p py pos : Pos} {e : Expr} {es : List Expr} {g0 : Rho → R D} {g : Rho → R (List D)} (F : FnOk X.prog X.w X.K X.mg X.base (CX X.prog X.w) k f fd ps (spI X.K n sem)) (hr : Room k X.A) (hg : Gl X x) (hm : X.mg x = some (.ref f))
    (hk : PySem.W.keepIn X.K (.ref f) = true) (hb : L2.Binds X.K fd ps []) (tk : Takes X w.W) (ha0 : SE X w e g0) (hN : X.N[i]? = some y) (hv : Vis X.env.scope y) (hyd : (y == ("__debug__" : Str)) = false) (hcd : (y == ("__classdict__" : Str)) = false) (ha : SA X w es g) (hd : (x == ("__debug__" : Str)) = false)
    (he : starEach (e :: .Name y py :: es) X.env = (false, eval e X.env) :: starEach (.Name y py :: es) X.env) (hpl : (backTo pos (starEach (.Name y py :: es) X.env)).any (·.1) = false) : SV X w (.Call (.Name x p) (e :: .Name y py :: es) [] pos) (callI n sem i g0 g) :=
  ⟨fun F' hF => pe_weak (pe_callS F hr hg hm hk hb (fun σ => passAt tk σ) (pa_cons (ha0.r F' hF) (pa_cons (pe_var hN hv hyd hcd) (ha.r F' hF) rfl) he) hd he hpl) fun σ H Q ⟨ρ, G, r, q⟩ => by
    unfold callI at q
    by_cases hh : (ioOf ρ[i]?).isSome = true
    · rw [if_pos hh] at q
      obtain ⟨v1, ev⟩ := hasV_ok r (ioOf_hasV hh)
      refine ⟨ρ, G, r, (Po.bind q).imp fun v0 H1 ⟨d0, ρ1, G1, s1, r1, n1, q1⟩ => ⟨v1, ev, ρ1, G1, r1, (Pa.bind q1).imp fun vs H2 ⟨ds, ρ2, G2, s2, r2, n2, q2⟩ => ?_⟩⟩
      by_cases hl : ds.length + 2 = n
      · rw [if_pos hl] at q2
        have fin : ∀ (s : Sl) (io : List D) (mk : List D → Sl), ρ2[i]? = some s → s.mu = true → ioOf (some s) = some (io, mk) → (∀ l, (mk l).isIo = s.isIo ∧ (mk l = .own l ∨ mk l = .io l)) → (∀ pp, Mo F'.K G2 H2 pp s → ∃ us, H2 pp = some (.lst us) ∧ Dqs F'.K G2 us io) → spI X.K n sem (v0 :: v1 :: vs) H2 Q (WE w.W σ) := by
          intro s io mk es hmu hio hmk hmo
          obtain ⟨pp, e1, e2, e3, e4, _⟩ := own_so r2 es hmu
          rw [ev] at e1
          have e1 : v1 = .ref pp := Option.some.inj (Option.some.inj e1)
          subst e1
          obtain ⟨us, hus, hdu⟩ := hmo pp e4
          refine ⟨by rw [List.length_cons, List.length_cons, n2.length]; omega, G2, v0, pp, us, vs, d0, io, ds, rfl, r2.gh, hF ▸ n1.mono s2, e2, hus, hF ▸ hdu, hF ▸ n2, ?_⟩
          rw [es, hio] at q2
          have q2 : Po F' w σ G2 (NvR F' σ) Q (match sem io (d0 :: ds) with | .ok d io' => .ok (.d d) (ρ2.set i (mk io')) | _ => .bad) := q2
          cases hsem : sem io (d0 :: ds) with
          | bad => rw [hsem] at q2; exact q2.elim
          | exc c => rw [hsem] at q2; exact q2.elim
          | ok d io' =>
            rw [hsem] at q2
            intro v G3 H3 ws s3 g3 h3 n3 hp3 hd3 dq
            exact q2 v G3 H3 s3 (r2.afterIo es hmu ev hus s3 g3 h3 n3 hp3 (hF ▸ hd3) (hmk io').2 (hmk io').1) (show Dq F'.K G3 v d from hF ▸ dq)
        cases es : ρ2[i]? with
        | none => rw [es] at q2; exact q2.elim
        | some s =>
          cases s with
          | own io => exact fin _ io .own es rfl rfl (fun l => ⟨rfl, .inl rfl⟩) fun pp m => m
          | io io => exact fin _ io .io es rfl rfl (fun l => ⟨rfl, .inr rfl⟩) fun pp m => m
          | _ => rw [es] at q2; exact q2.elim
      · rw [if_neg hl] at q2
        exact q2.elim
    · rw [if_neg hh] at q
      exact q.elim⟩

/-! what a for walks: a list of data -/
def YOk (K : PySem.W.Frag) (G H : Hp) (d : D) (x : V) (H' : Hp) : Prop := (H' = H ∧ Dq K G x d) ∨ ∃ T vs ds, x = .ref T ∧ H T = none ∧ H' = upd H T (.tup vs) ∧ d = .tup ds ∧ Dqs K G vs ds
def Wk (K : PySem.W.Frag) (G : Hp) (ds : List D) (J : It) : Prop := ∀ (i : Nat) (G1 H : Hp), Same G G1 → Same G1 H → (ds.length ≤ i → J.stop i H) ∧ ∀ d, ds[i]? = some d → J.go i H ∧ ∀ x H', J.yld i H x H' → YOk K G1 H d x H'
def Pi (F : Fx) (w : Wi) (σ : L2.St) (G : Hp) (P : It → Hp → Prop) : R (List D) → Prop
  | .ok ds ρ => ∀ J G' H', Same G G' → Rel F ρ σ G' H' → Wk F.K G' ds J → P J H'
  | .exc c ρ => ∀ G' H', Same G G' → Rel F ρ σ G' H' → w.W (.ref (w.ec c)) none σ H'
  | .bad => False
def tI (F : Fx) (w : Wi) (f : Rho → R (List D)) : TI := fun σ H P => ∃ ρ G, Rel F ρ σ G H ∧ Pi F w σ G P (f ρ)
structure SI (X : Cx) (w : Wi) (tg e : Expr) (f : Rho → R (List D)) : Prop where
  r : ∀ F : Fx, F.K = X.K → PI X tg e (tI F w f)
theorem Pi.bind {F : Fx} {σ : L2.St} {G : Hp} {α : Type} {N : Rho → Hp → Hp → V → α → Prop} {P : It → Hp → Prop} {k : α → Rho → R (List D)} : ∀ {r : R α}, Pi F w σ G P (r.bind k) →
    Po F w σ G N (fun v H' => ∃ a ρ' G', Same G G' ∧ Rel F ρ' σ G' H' ∧ N ρ' G' H' v a ∧ Pi F w σ G' P (k a ρ')) r
  | .ok a ρ, h => fun v G2 H2 s r n => ⟨a, ρ, G2, s, r, n, by
    revert h
    show Pi F w σ G P (k a ρ) → Pi F w σ G2 P (k a ρ)
    cases k a ρ with
    | ok o ρ2 => exact fun h J G3 H3 s3 => h J G3 H3 (s.trans s3)
    | exc c ρ2 => exact fun h G3 H3 s3 => h G3 H3 (s.trans s3)
    | bad => exact fun h => h⟩
  | .exc _ _, h => h
  | .bad, h => h
theorem Pi.binds {F : Fx} {σ : L2.St} {G : Hp} {P : It → Hp → Prop} {k : List D → Rho → R (List D)} : ∀ {r : R (List D)}, Pi F w σ G P (r.bind k) →
    Pa F w σ G (fun vs H' => ∃ ds ρ' G', Same G G' ∧ Rel F ρ' σ G' H' ∧ Dqs F.K G' vs ds ∧ Pi F w σ G' P (k ds ρ')) r
  | .ok a ρ, h => fun v G2 H2 s r n => ⟨a, ρ, G2, s, r, n, by
    revert h
    show Pi F w σ G P (k a ρ) → Pi F w σ G2 P (k a ρ)
    cases k a ρ with
    | ok o ρ2 => exact fun h J G3 H3 s3 => h J G3 H3 (s.trans s3)
    | exc c ρ2 => exact fun h G3 H3 s3 => h G3 H3 (s.trans s3)
    | bad => exact fun h => h⟩
  | .exc _ _, h => h
  | .bad, h => h
/-- a list, a tuple -/
def iSeq (f : Rho → R D) : Rho → R (List D) := fun ρ => (f ρ).bind fun x ρ1 => match x with
  | .lst ds => .ok ds ρ1
  | .tup ds => .ok ds ρ1
  | .str z => .ok (z.cps.toList.map fun c => .str ⟨#[c]⟩) ρ1
  | _ => .bad
theorem wk_list {K : PySem.W.Frag} {G : Hp} {a : Addr} {xs : List V} {ds : List D} (h : G a = some (.lst xs)) (hd : Dqs K G xs ds) (hK : K = X.K) {s : Shared} {pins : List (Addr × Obj)} : Wk K G ds (Itl X.K a) := fun i G1 H s1 s2 => by
  have hs : SqL X.K H a xs := SqL.of (s2 _ _ (s1 _ _ h))
  refine ⟨fun hi => ⟨xs, hs, by rw [hd.length]; exact hi⟩, fun d e => ?_⟩
  obtain ⟨v, e1, n⟩ := hd.get e
  refine ⟨⟨xs, v, hs, e1⟩, fun x H' ⟨eH, hx⟩ => .inl ⟨eH, ?_⟩⟩
  have := hx xs hs
  rw [e1] at this
  cases this
  exact n.mono s1
theorem wk_tup {K : PySem.W.Frag} {G : Hp} {a : Addr} {xs : List V} {ds : List D} (h : SqT K G a xs) (hd : Dqs K G xs ds) (hK : K = X.K) : Wk K G ds (Itt X.K a) := fun i G1 H s1 s2 => by
  have hs : SqT X.K H a xs := hK ▸ seqT_mono s2 (seqT_mono s1 h)
  refine ⟨fun hi => ⟨xs, hs, by rw [hd.length]; exact hi⟩, fun d e => ?_⟩
  obtain ⟨v, e1, n⟩ := hd.get e
  refine ⟨⟨xs, v, hs, e1⟩, fun x H' ⟨eH, hx⟩ => .inl ⟨eH, ?_⟩⟩
  have := hx xs hs
  rw [e1] at this
  cases this
  exact n.mono s1
theorem wk_str {K : PySem.W.Frag} {G : Hp} (z : Str) : Wk K G (z.cps.toList.map fun c => .str ⟨#[c]⟩) (Its z) := fun i G1 H s1 s2 => by
  refine ⟨fun hi => ?_, fun d e => ?_⟩
  · rw [List.length_map, Array.length_toList] at hi
    exact hi
  · rw [List.getElem?_map] at e
    obtain ⟨c, e1, rfl⟩ := Option.map_eq_some_iff.mp e
    have e2 : z.cps[i]? = some c := by rw [← Array.getElem?_toList]; exact e1
    refine ⟨(Array.getElem?_eq_some_iff.mp e2).1, fun x H' ⟨eH, c', ec, ex⟩ => .inl ⟨eH, ?_⟩⟩
    rw [e2] at ec
    cases ec
    rw [ex]
    exact .str _
theorem si_seq {tg e : Expr} {f : Rho → R D} (h : SE X w e f) : SI X w tg e (iSeq f) := ⟨fun F hF => ⟨fun pins s σ H P I ⟨ρ, G, r, q⟩ => by
  cases e1 : f ρ with
  | bad =>
    unfold iSeq at q
    rw [e1] at q
    exact q.elim
  | exc c ρ1 =>
    refine (pi_list (h.r F hF)).run pins s σ H P I ⟨ρ, G, r, ?_⟩
    unfold iSeq at q
    rw [e1] at q ⊢
    exact q
  | ok x ρ1 =>
    have q' := q
    unfold iSeq at q'
    rw [e1] at q'
    cases x with
    | lst ds =>
      have q' : Pi F w σ G P (.ok ds ρ1) := q'
      refine (pi_list (h.r F hF)).run pins s σ H P I ⟨ρ, G, r, ?_⟩
      rw [e1]
      intro v G1 H1 s1 r1 n1
      cases n1 with
      | lst h1 m1 => exact ⟨_, rfl, ⟨_, SqL.of (r1.gh _ _ h1)⟩, q' _ G1 H1 s1 r1 (wk_list (s := s) (pins := pins) h1 m1 hF)⟩
    | tup ds =>
      have q' : Pi F w σ G P (.ok ds ρ1) := q'
      refine (pi_tup (h.r F hF)).run pins s σ H P I ⟨ρ, G, r, ?_⟩
      rw [e1]
      intro v G1 H1 s1 r1 n1
      cases n1 with
      | tup h1 m1 => exact ⟨_, rfl, ⟨_, hF ▸ mem_G r1 h1⟩, q' _ G1 H1 s1 r1 (wk_tup h1 m1 hF)⟩
    | str z =>
      have q' : Pi F w σ G P (.ok (z.cps.toList.map fun c => .str ⟨#[c]⟩) ρ1) := q'
      refine (pi_str (h.r F hF)).run pins s σ H P I ⟨ρ, G, r, ?_⟩
      rw [e1]
      intro v G1 H1 s1 r1 n1
      cases n1
      exact ⟨_, rfl, q' _ G1 H1 s1 r1 (wk_str z)⟩
    | _ => exact q'.elim⟩⟩
/-- ranges -/
def rngL (lo : Int) (n : Nat) (c : Int) : List D := (List.range n).map fun i => .int (lo + (i : Nat) * c)
def smR (i : Int) : Bool := decide (i.natAbs < 1000000000)
theorem wk_rng {K : PySem.W.Frag} {G : Hp} (lo : Int) (n : Nat) : Wk K G (rngL lo n 1) (Itr lo n) := fun i G1 H s1 s2 => by
  refine ⟨fun hi => ?_, fun d e => ?_⟩
  · unfold rngL at hi
    rw [List.length_map, List.length_range] at hi
    exact hi
  · unfold rngL at e
    rw [List.getElem?_map] at e
    obtain ⟨j, e1, rfl⟩ := Option.map_eq_some_iff.mp e
    obtain ⟨hj, e2⟩ := List.getElem?_eq_some_iff.mp e1
    rw [List.length_range] at hj
    rw [List.getElem_range] at e2
    subst e2
    refine ⟨hj, fun x H' ⟨eH, ex⟩ => .inl ⟨eH, ?_⟩⟩
    rw [ex, Int.mul_one]
    exact .int _
theorem wk_rngC {K : PySem.W.Frag} {G : Hp} (lo c : Int) (n : Nat) : Wk K G (rngL lo n c) (Itc lo c n) := fun i G1 H s1 s2 => by
  refine ⟨fun hi => ?_, fun d e => ?_⟩
  · unfold rngL at hi
    rw [List.length_map, List.length_range] at hi
    exact hi
  · unfold rngL at e
    rw [List.getElem?_map] at e
    obtain ⟨j, e1, rfl⟩ := Option.map_eq_some_iff.mp e
    obtain ⟨hj, e2⟩ := List.getElem?_eq_some_iff.mp e1
    rw [List.length_range] at hj
    rw [List.getElem_range] at e2
    subst e2
    refine ⟨hj, fun x H' ⟨eH, ex⟩ => .inl ⟨eH, ?_⟩⟩
    rw [ex]
    exact .int _
def iR1 (f : Rho → R (List D)) : Rho → R (List D) := fun ρ => (f ρ).bind fun ds ρ1 => match ds with
  | [.int n] => if smR n = true then .ok (rngL 0 n.toNat 1) ρ1 else .bad
  | _ => .bad
def iR2 (f : Rho → R (List D)) : Rho → R (List D) := fun ρ => (f ρ).bind fun ds ρ1 => match ds with
  | [.int i, .int j] => if (smR i && smR j) = true then .ok (rngL i (j - i).toNat 1) ρ1 else .bad
  | _ => .bad
def iR3 (f : Rho → R (List D)) : Rho → R (List D) := fun ρ => (f ρ).bind fun ds ρ1 => match ds with
  | [.int i, .int j, .int c] => if (smR i && smR j && decide (c = -1)) = true then .ok (rngL i (i - j).toNat (-1)) ρ1 else .bad
  | _ => .bad
theorem smR_ok {i : Int} (h : smR i = true) : -(2 ^ 62) ≤ i ∧ i < 2 ^ 62 := by
  have h := of_decide_eq_true h
  have e : (2 : Int) ^ 62 = 4611686018427387904 := by decide
  rw [e]
  omega
theorem si_rng1 {tg a : Expr} {f : Rho → R (List D)} {p pos : Pos} (hg : Gl X "range") (hm : X.mg "range" = none) (ha : SA X w [a] f) (hs : starEach [a] X.env = [(false, eval a X.env)]) : SI X w tg (.Call (.Name "range" p) [a] [] pos) (iR1 f) := by
  refine ⟨fun F hF => ⟨fun pins s σ H P I ⟨ρ, G, r, q⟩ => (pi_range1 hg hm (ha.r F hF) hs).run pins s σ H P I ⟨ρ, G, r, ?_⟩⟩⟩
  refine (Pi.binds q).imp fun vs H1 ⟨ds, ρ1, G1, s1, r1, n1, q1⟩ => ?_
  split at q1
  · obtain ⟨v, rfl, m⟩ := dqs1 n1
    cases m
    split at q1
    · rename_i c
      obtain ⟨c1, c2⟩ := smR_ok c
      exact ⟨_, rfl, c1, c2, q1 _ G1 H1 (Same.refl _) r1 (wk_rng 0 _)⟩
    · exact q1.elim
  · exact q1.elim
theorem si_rng2 {tg a b : Expr} {f : Rho → R (List D)} {p pos : Pos} (hg : Gl X "range") (hm : X.mg "range" = none) (ha : SA X w [a, b] f) (hs : starEach [a, b] X.env = [(false, eval a X.env), (false, eval b X.env)]) (hs2 : starEach [b] X.env = [(false, eval b X.env)]) :
    SI X w tg (.Call (.Name "range" p) [a, b] [] pos) (iR2 f) := by
  refine ⟨fun F hF => ⟨fun pins s σ H P I ⟨ρ, G, r, q⟩ => (pi_range2 hg hm (ha.r F hF) hs hs2).run pins s σ H P I ⟨ρ, G, r, ?_⟩⟩⟩
  refine (Pi.binds q).imp fun vs H1 ⟨ds, ρ1, G1, s1, r1, n1, q1⟩ => ?_
  split at q1
  · obtain ⟨v, u, rfl, m, m2⟩ := dqs2 n1
    cases m
    cases m2
    split at q1
    · rename_i c
      obtain ⟨c, d⟩ := and2 c
      obtain ⟨c1, c2⟩ := smR_ok c
      obtain ⟨d1, d2⟩ := smR_ok d
      exact ⟨_, _, rfl, ⟨c1, c2, d1, d2⟩, q1 _ G1 H1 (Same.refl _) r1 (wk_rng _ _)⟩
    · exact q1.elim
  · exact q1.elim
theorem dqs3 {K : PySem.W.Frag} {G : Hp} {vs : List V} {d e f : D} (h : Dqs K G vs [d, e, f]) : ∃ v u t, vs = [v, u, t] ∧ Dq K G v d ∧ Dq K G u e ∧ Dq K G t f := by
  cases h with
  | cons a b =>
    obtain ⟨v, u, rfl, m, m2⟩ := dqs2 b
    exact ⟨_, _, _, rfl, a, m, m2⟩
theorem si_rng3 {tg a b c : Expr} {f : Rho → R (List D)} {p pos : Pos} (hg : Gl X "range") (hm : X.mg "range" = none) (ha : SA X w [a, b, c] f) (hs : starEach [a, b, c] X.env = (false, eval a X.env) :: starEach [b, c] X.env) (hs2 : (backTo pos (starEach [b, c] X.env)).any (·.1) = false) :
    SI X w tg (.Call (.Name "range" p) [a, b, c] [] pos) (iR3 f) := by
  refine ⟨fun F hF => ⟨fun pins s σ H P I ⟨ρ, G, r, q⟩ => (pi_range3 hg hm (ha.r F hF) hs hs2).run pins s σ H P I ⟨ρ, G, r, ?_⟩⟩⟩
  refine (Pi.binds q).imp fun vs H1 ⟨ds, ρ1, G1, s1, r1, n1, q1⟩ => ?_
  split at q1
  · obtain ⟨v, u, t, rfl, m, m2, m3⟩ := dqs3 n1
    cases m
    cases m2
    cases m3
    split at q1
    · rename_i c
      obtain ⟨c, e⟩ := and2 c
      obtain ⟨c, d⟩ := and2 c
      obtain ⟨c1, c2⟩ := smR_ok c
      obtain ⟨d1, d2⟩ := smR_ok d
      have e := of_decide_eq_true e
      subst e
      exact ⟨_, _, _, _, rfl, RgC.neg c1 c2 d1 d2, q1 _ G1 H1 (Same.refl _) r1 (wk_rngC _ _ _)⟩
    · exact q1.elim
  · exact q1.elim
/-- enumerate, zip of lists -/
def enuL : Nat → List D → List D
  | _, [] => []
  | n, d :: ds => .tup [.int n, d] :: enuL (n + 1) ds
def zipL : List D → List D → List D
  | x :: xs, y :: ys => .tup [x, y] :: zipL xs ys
  | _, _ => []
theorem enuL_get : ∀ (ds : List D) (n i : Nat), (enuL n ds)[i]? = (ds[i]?).map fun d => .tup [.int ((n + i : Nat) : Int), d]
  | [], n, i => by simp [enuL]
  | d :: ds, n, 0 => rfl
  | d :: ds, n, i + 1 => by
    show (enuL (n + 1) ds)[i]? = _
    rw [enuL_get ds (n + 1) i, show n + 1 + i = n + (i + 1) by omega]
    rfl
theorem enuL_len : ∀ (ds : List D) (n : Nat), (enuL n ds).length = ds.length
  | [], _ => rfl
  | _ :: ds, n => congrArg Nat.succ (enuL_len ds (n + 1))
theorem zipL_get : ∀ (xs ys : List D) (i : Nat) (d : D), (zipL xs ys)[i]? = some d → ∃ x y, d = .tup [x, y] ∧ xs[i]? = some x ∧ ys[i]? = some y
  | [], _, i, d, h => by cases i <;> cases h
  | _ :: _, [], i, d, h => by cases i <;> cases h
  | x :: xs, y :: ys, 0, d, h => ⟨x, y, (Option.some.inj h).symm, rfl, rfl⟩
  | x :: xs, y :: ys, i + 1, d, h => zipL_get xs ys i d h
theorem zipL_len : ∀ (xs ys : List D), (zipL xs ys).length = min xs.length ys.length
  | [], _ => by simp [zipL]
  | _ :: _, [] => by simp [zipL]
  | x :: xs, y :: ys => by
    show (zipL xs ys).length + 1 = min (xs.length + 1) (ys.length + 1)
    rw [zipL_len xs ys]
    omega
/-- the items of a list, a tuple, the script -/
def seqD : D → Option (List D)
  | .lst ds => some ds
  | .tup ds => some ds
  | .scr ns => some (ns.map .int)
  | _ => none
theorem seqD_ok {K : PySem.W.Frag} {G : Hp} {v : V} {d : D} {xs : List D} (h : Dq K G v d) (e : seqD d = some xs) : ∃ k a us, v = .ref a ∧ Dqs K G us xs ∧ ∀ H, Same G H → SQ k K H a us := by
  cases h with
  | lst h1 m => cases e; exact ⟨true, _, _, rfl, m, fun H s => SqL.of (s _ _ h1)⟩
  | tup h1 m => cases e; exact ⟨false, _, _, rfl, m, fun H s => seqT_mono s h1⟩
  | scr h1 => cases e; exact ⟨true, _, _, rfl, dqs_ints K G _, fun H s => s.seq h1⟩
  | _ => cases e
def iEnu (f : Rho → R (List D)) : Rho → R (List D) := fun ρ => (f ρ).bind fun ds ρ1 => match ds with
  | [d] => (match seqD d with
    | some xs => .ok (enuL 0 xs) ρ1
    | none => .bad)
  | _ => .bad
def iZipD (f : Rho → R (List D)) : Rho → R (List D) := fun ρ => (f ρ).bind fun ds ρ1 => match ds with
  | [d, e] => (match seqD d, seqD e with
    | some xs, some ys => .ok (zipL xs ys) ρ1
    | _, _ => .bad)
  | _ => .bad
theorem si_enu {e : Expr} {f : Rho → R (List D)} {p pos tpos : Pos} {elts : List Expr} {kk : Nat} (hg : Gl X "enumerate") (hm : X.mg "enumerate" = none) (ha : SA X w [e] f) (hs : starEach [e] X.env = [(false, eval e X.env)]) :
    SI X w (.Tuple elts kk tpos) (.Call (.Name "enumerate" p) [e] [] pos) (iEnu f) := by
  refine ⟨fun F hF => ⟨fun pins s σ H P I ⟨ρ, G, r, q⟩ => (pi_enumQ hg hm (ha.r F hF) hs).run pins s σ H P I ⟨ρ, G, r, ?_⟩⟩⟩
  refine (Pi.binds q).imp fun vs H1 ⟨ds, ρ1, G1, s1, r1, n1, q1⟩ => ?_
  split at q1
  · obtain ⟨v, rfl, m⟩ := dqs1 n1
    split at q1
    · rename_i xs ex
      obtain ⟨k, a, us, rfl, m1, hsq⟩ := seqD_ok m ex
      rw [hF] at hsq
      refine ⟨k, a, us, rfl, hsq _ r1.gh, q1 _ G1 H1 (Same.refl _) r1 fun i G2 H2 s2 g2 => ?_⟩
      have hq : SQ k X.K H2 a us := hsq _ (s2.trans g2)
      refine ⟨fun hi => ⟨us, hq, by rw [m1.length]; rw [enuL_len] at hi; exact hi⟩, fun d ed => ?_⟩
      rw [enuL_get] at ed
      obtain ⟨d0, e0, rfl⟩ := Option.map_eq_some_iff.mp ed
      obtain ⟨u, eu, nu⟩ := m1.get e0
      refine ⟨⟨us, u, hq, eu⟩, fun x H' ⟨T, x0, ex, hT, eH, hx⟩ => .inr ⟨T, _, _, ex, hT, eH, rfl, ?_⟩⟩
      have z := hx us hq
      rw [eu] at z
      cases z
      rw [Nat.zero_add]
      exact .cons (.int _) (.cons (nu.mono s2) .nil)
    · exact q1.elim
  · exact q1.elim
theorem si_zip {e e2 : Expr} {f : Rho → R (List D)} {p pos tpos : Pos} {elts : List Expr} {kk : Nat} (hg : Gl X "zip") (hm : X.mg "zip" = none) (ha : SA X w [e, e2] f) (hs : starEach [e, e2] X.env = (false, eval e X.env) :: starEach [e2] X.env) (hs2 : (backTo pos (starEach [e2] X.env)).any (·.1) = false) :
    SI X w (.Tuple elts kk tpos) (.Call (.Name "zip" p) [e, e2] [] pos) (iZipD f) := by
  refine ⟨fun F hF => ⟨fun pins s σ H P I ⟨ρ, G, r, q⟩ => (pi_zipQ hg hm (ha.r F hF) hs hs2).run pins s σ H P I ⟨ρ, G, r, ?_⟩⟩⟩
  refine (Pi.binds q).imp fun vs H1 ⟨ds, ρ1, G1, s1, r1, n1, q1⟩ => ?_
  split at q1
  · obtain ⟨v, u, rfl, m, m2⟩ := dqs2 n1
    split at q1
    · rename_i xs ys ex ey
      obtain ⟨k, a, us, rfl, m1, h1⟩ := seqD_ok m ex
      obtain ⟨j, b, ws, rfl, m2, h2⟩ := seqD_ok m2 ey
      rw [hF] at h1 h2
      refine ⟨k, j, a, b, us, ws, rfl, h1 _ r1.gh, h2 _ r1.gh, q1 _ G1 H1 (Same.refl _) r1 fun i G2 H2 s2 g2 => ?_⟩
      have hq : SQ k X.K H2 a us := h1 _ (s2.trans g2)
      have hq2 : SQ j X.K H2 b ws := h2 _ (s2.trans g2)
      refine ⟨fun hi => ⟨us, ws, hq, hq2, by rw [zipL_len] at hi; rw [m1.length, m2.length]; exact hi⟩, fun d ed => ?_⟩
      obtain ⟨x, y, rfl, ex, ey⟩ := zipL_get xs ys i d ed
      obtain ⟨vx, e1, nx⟩ := m1.get ex
      obtain ⟨vy, e2, ny⟩ := m2.get ey
      refine ⟨⟨us, ws, vx, vy, hq, hq2, e1, e2⟩, fun z H' ⟨T, x0, y0, ez, hT, eH, hx, hy⟩ => .inr ⟨T, _, _, ez, hT, eH, rfl, ?_⟩⟩
      have q1 := hx us hq
      rw [e1] at q1
      cases q1
      have q2 := hy ws hq2
      rw [e2] at q2
      cases q2
      exact .cons (nx.mono s2) (.cons (ny.mono s2) .nil)
    · exact q1.elim
  · exact q1.elim
end
end PF
end
section
namespace PF
open PySem PySem.Spec PyProof.Rows L2

/-! targets -/
inductive Tg where
  | n (i : Nat) | t2 (i j : Nat)
def Tg.sl : Tg → List Nat
  | .n i => [i]
  | .t2 i j => [i, j]
/-- the slot may be stored to -/
def stB : Option Sl → Bool
  | some (.io _) => false
  | some _ => true
  | none => false
def setS (i : Nat) (s : Sl) (ρ : Rho) : Option Rho := match stB ρ[i]? with
  | true => some (ρ.set i s)
  | false => none
def setTg : Tg → D → Rho → Option Rho
  | .n i, d, ρ => setS i (.val d) ρ
  | .t2 i j, .tup [d, e], ρ => (setS i (.val d) ρ).bind (setS j (.val e))
  | _, _, _ => none
theorem setS_ok {i : Nat} {s : Sl} {ρ ρ' : Rho} (h : setS i s ρ = some ρ') : ρ' = ρ.set i s := by
  unfold setS at h
  split at h
  · exact (Option.some.inj h).symm
  · cases h
def gT (F : Fx) (t : Tg) : TG := fun v σ H Q => ∃ ρ G d ρ', Rel F ρ σ G H ∧ Dq F.K G v d ∧ setTg t d ρ = some ρ' ∧ ∀ σ', Rel F ρ' σ' G H → σ'.length = σ.length → (∀ k, k ∉ t.sl → σ'[k]? = σ[k]?) → Q σ' H
structure SG (X : Cx) (e : Expr) (t : Tg) : Prop where
  r : ∀ F : Fx, F.K = X.K → PG X e (gT F t)
theorem pg_weak {X : Cx} {e : Expr} {t t' : TG} (h : PG X e t) (i : ∀ v σ H Q, t' v σ H Q → t v σ H Q) : PG X e t' := ⟨fun pins s σ H v u Q I r q => h.run pins s σ H v u Q I r (i v σ H Q q)⟩
section
variable {X : Cx} {w : Wi}
theorem sg_n {i : Nat} {x : Str} {pos : Pos} (hN : X.N.Nodup) (hi : X.N[i]? = some x) (hx : Loc X.env.scope x) (hf : X.fn x = true ∨ X.env.scope.names.lookup x = some .local) : SG X (.Name x pos) (.n i) :=
  ⟨fun F hF => pg_weak (pg_name hN hi hx hf) fun v σ H Q ⟨ρ, G, d, ρ', r, n, e, q⟩ => by
    have e := setS_ok e
    subst e
    refine q _ (r.store n) (List.length_set ..) fun k hk => ?_
    have hk : k ≠ i := fun z => hk (by rw [z]; exact List.mem_singleton.mpr rfl)
    exact List.getElem?_set_ne (Ne.symm hk)⟩
theorem sg_t2 {i j kk : Nat} {x y : Str} {px py pos : Pos} (hc : X.calm = true) (hN : X.N.Nodup) (hi : X.N[i]? = some x) (hx : Loc X.env.scope x) (hf : X.fn x = true ∨ X.env.scope.names.lookup x = some .local) (hj : X.N[j]? = some y) (hy : Loc X.env.scope y)
    (hg : X.fn y = true ∨ X.env.scope.names.lookup y = some .local) : SG X (.Tuple [.Name x px, .Name y py] kk pos) (.t2 i j) :=
  ⟨fun F hF => pg_weak (pg_tup (n := 2) hc (pgs_cons (pg_name hN hi hx hf) (pgs_cons (pg_name hN hj hy hg) pgs_nil)) rfl rfl) fun v σ H Q ⟨ρ, G, d, ρ', r, n, e, q⟩ => by
    cases d with
    | tup ds =>
      cases n with
      | @tup a xs ds h1 m1 =>
        cases ds with
        | nil => cases e
        | cons d1 ds =>
          cases ds with
          | nil => cases e
          | cons d2 ds =>
            cases ds with
            | cons d3 ds => cases e
            | nil =>
              obtain ⟨v1, v2, rfl, n1, n2⟩ := dqs2 m1
              have e : (setS i (.val d1) ρ).bind (setS j (.val d2)) = some ρ' := e
              obtain ⟨ρ1, e1, e2⟩ := Option.bind_eq_some_iff.mp e
              have e1 := setS_ok e1
              subst e1
              have e2 := setS_ok e2
              subst e2
              refine ⟨a, [v1, v2], rfl, hF ▸ mem_G r h1, rfl, v1, [v2], rfl, v2, [], rfl, rfl, ?_⟩
              refine q _ ((r.store n1).store n2) (by rw [List.length_set, List.length_set]) fun k hk => ?_
              have h1 : k ≠ i := fun z => hk (by rw [z]; exact List.mem_cons_self)
              have h2 : k ≠ j := fun z => hk (by rw [z]; exact List.mem_cons_of_mem _ List.mem_cons_self)
              rw [List.getElem?_set_ne (Ne.symm h2), List.getElem?_set_ne (Ne.symm h1)]
    | _ => cases e⟩

/-! the names of a comprehension's block, forgotten and put back -/
def wipeR (ρ : Rho) : List Nat → Rho
  | [] => ρ
  | v :: vs => (wipeR ρ vs).set v .un
def keepS : Option Sl → Sl
  | some (.val d) => .val d
  | _ => .un
def restR (ρ0 ρ : Rho) : List Nat → Rho
  | [] => ρ
  | v :: vs => (restR ρ0 ρ vs).set v (keepS ρ0[v]?)
theorem wipe_out {σ : L2.St} {k : Nat} : ∀ {vs : List Nat}, k ∉ vs → (wipe σ vs)[k]? = σ[k]?
  | [], _ => rfl
  | v :: vs, h => by
    obtain ⟨h1, h2⟩ := not_or.mp (fun z => h (List.mem_cons.mpr z))
    unfold wipe
    rw [List.getElem?_set_ne (Ne.symm h1)]
    exact wipe_out h2
theorem wipe_in {σ : L2.St} {k : Nat} : ∀ {vs : List Nat}, k ∈ vs → k < σ.length → (wipe σ vs)[k]? = some none
  | v :: vs, h, hl => by
    unfold wipe
    by_cases e : v = k
    · subst e
      exact List.getElem?_set_self (by rw [wipe_length]; exact hl)
    · rw [List.getElem?_set_ne e]
      rcases List.mem_cons.mp h with z | z
      · exact absurd z.symm e
      · exact wipe_in z hl
theorem wipe_eq {σ τ : L2.St} {vs : List Nat} (hl : τ.length = σ.length) (h : ∀ k, k ∉ vs → τ[k]? = σ[k]?) : wipe τ vs = wipe σ vs := by
  apply List.ext_getElem?
  intro k
  by_cases hk : k ∈ vs
  · by_cases hl2 : k < σ.length
    · rw [wipe_in hk hl2, wipe_in hk (by omega)]
    · rw [List.getElem?_eq_none (by rw [wipe_length]; omega), List.getElem?_eq_none (by rw [wipe_length]; omega)]
  · rw [wipe_out hk, wipe_out hk, h k hk]
theorem wipeR_len (ρ : Rho) : ∀ vs, (wipeR ρ vs).length = ρ.length
  | [] => rfl
  | v :: vs => by unfold wipeR; rw [List.length_set, wipeR_len ρ vs]
theorem wipeR_out {ρ : Rho} {k : Nat} : ∀ {vs : List Nat}, k ∉ vs → (wipeR ρ vs)[k]? = ρ[k]?
  | [], _ => rfl
  | v :: vs, h => by
    obtain ⟨h1, h2⟩ := not_or.mp (fun z => h (List.mem_cons.mpr z))
    unfold wipeR
    rw [List.getElem?_set_ne (Ne.symm h1)]
    exact wipeR_out h2
theorem wipeR_in {ρ : Rho} {k : Nat} : ∀ {vs : List Nat}, k ∈ vs → k < ρ.length → (wipeR ρ vs)[k]? = some .un
  | v :: vs, h, hl => by
    unfold wipeR
    by_cases e : v = k
    · subst e
      exact List.getElem?_set_self (by rw [wipeR_len]; exact hl)
    · rw [List.getElem?_set_ne e]
      rcases List.mem_cons.mp h with z | z
      · exact absurd z.symm e
      · exact wipeR_in z hl
theorem restR_len (ρ0 ρ : Rho) : ∀ vs, (restR ρ0 ρ vs).length = ρ.length
  | [] => rfl
  | v :: vs => by unfold restR; rw [List.length_set, restR_len ρ0 ρ vs]
theorem restR_out {ρ0 ρ : Rho} {k : Nat} : ∀ {vs : List Nat}, k ∉ vs → (restR ρ0 ρ vs)[k]? = ρ[k]?
  | [], _ => rfl
  | v :: vs, h => by
    obtain ⟨h1, h2⟩ := not_or.mp (fun z => h (List.mem_cons.mpr z))
    unfold restR
    rw [List.getElem?_set_ne (Ne.symm h1)]
    exact restR_out h2
theorem restR_in {ρ0 ρ : Rho} {k : Nat} : ∀ {vs : List Nat}, k ∈ vs → k < ρ.length → (restR ρ0 ρ vs)[k]? = some (keepS ρ0[k]?)
  | v :: vs, h, hl => by
    unfold restR
    by_cases e : v = k
    · subst e
      exact List.getElem?_set_self (by rw [restR_len]; exact hl)
    · rw [List.getElem?_set_ne e]
      rcases List.mem_cons.mp h with z | z
      · exact absurd z.symm e
      · exact restR_in z hl
theorem Rel.wipe {F : Fx} {ρ : Rho} {σ : L2.St} {G H : Hp} (r : Rel F ρ σ G H) (vs : List Nat) : Rel F (wipeR ρ vs) (L2.wipe σ vs) G H where
  len := by rw [wipeR_len, wipe_length]; exact r.len
  gh := r.gh
  h0 := r.h0
  g0 := r.g0
  sl := fun i s hs => by
    by_cases hi : i ∈ vs
    · by_cases hl : i < ρ.length
      · rw [wipeR_in hi hl] at hs
        cases hs
        trivial
      · rw [List.getElem?_eq_none (by rw [wipeR_len]; omega)] at hs
        cases hs
    · rw [wipeR_out hi] at hs
      rw [wipe_out hi]
      exact r.sl i s hs
  ap := fun i j p h1 h2 => by
    have back : ∀ i, Hd (wipeR ρ vs) (L2.wipe σ vs) i p → Hd ρ σ i p := fun i ⟨s, e, m, es⟩ => by
      by_cases hi : i ∈ vs
      · by_cases hl : i < ρ.length
        · rw [wipeR_in hi hl] at e
          cases e
          cases m
        · rw [List.getElem?_eq_none (by rw [wipeR_len]; omega)] at e
          cases e
      · rw [wipeR_out hi] at e
        rw [wipe_out hi] at es
        exact ⟨s, e, m, es⟩
    exact r.ap i j p (back i h1) (back j h2)
theorem Rel.rest {F : Fx} {ρ0 ρ : Rho} {σ : L2.St} {G0 H0 G H : Hp} {vs : List Nat} (r0 : Rel F ρ0 σ G0 H0) (sm : Same G0 G) (r : Rel F ρ (L2.wipe σ vs) G H) : Rel F (restR ρ0 ρ vs) σ G H ∧ ∀ i p, Hd (restR ρ0 ρ vs) σ i p → Hd ρ (L2.wipe σ vs) i p := by
  have hl : ρ.length = σ.length := by rw [r.len, wipe_length]
  have back : ∀ i p, Hd (restR ρ0 ρ vs) σ i p → Hd ρ (L2.wipe σ vs) i p := fun i p ⟨s, e, m, es⟩ => by
    by_cases hi : i ∈ vs
    · by_cases hl2 : i < ρ.length
      · rw [restR_in hi hl2] at e
        have e := Option.some.inj e
        subst e
        unfold keepS at m
        split at m <;> cases m
      · rw [List.getElem?_eq_none (by rw [restR_len]; omega)] at e
        cases e
    · rw [restR_out hi] at e
      exact ⟨s, e, m, by rw [wipe_out hi]; exact es⟩
  refine ⟨⟨by rw [restR_len]; exact hl, r.gh, r.h0, r.g0, fun i s hs => ?_, fun i j p h1 h2 => r.ap i j p (back i p h1) (back j p h2)⟩, back⟩
  by_cases hi : i ∈ vs
  · by_cases hl2 : i < ρ.length
    · rw [restR_in hi hl2] at hs
      have e := Option.some.inj hs
      subst e
      unfold keepS
      split
      · rename_i d hd
        obtain ⟨v, e1, n⟩ := r0.sl i _ hd
        exact ⟨v, e1, n.mono sm⟩
      · trivial
    · rw [List.getElem?_eq_none (by rw [restR_len]; omega)] at hs
      cases hs
  · rw [restR_out hi] at hs
    have q := r.sl i s hs
    rw [wipe_out hi] at q
    exact q

/-! comprehensions -/
def noX {α : Type} (r : R α) : R α := match r with
  | .exc _ _ => .bad
  | r => r
def lcGo (tg : Tg) (c : Rho → R Bool) (f : Rho → R D) (own : List Nat) : List D → Rho → R (List D)
  | [], ρ => .ok [] ρ
  | d :: ds, ρ => match setTg tg d ρ with
    | none => .bad
    | some ρ1 => (noX (c ρ1)).bind fun b ρ2 => match b with
      | true => (noX (f ρ2)).bind fun x ρ3 => (lcGo tg c f own ds (wipeR ρ3 own)).bind fun xs ρ4 => .ok (x :: xs) ρ4
      | false => lcGo tg c f own ds (wipeR ρ2 own)
def vLc (it : Rho → R (List D)) (tg : Tg) (c : Rho → R Bool) (f : Rho → R D) (own : List Nat) : Rho → R Vl := fun ρ => (it ρ).bind fun ds ρ1 => if ds.length ≤ lim then (lcGo tg c f own ds (wipeR ρ1 own)).bind fun xs ρ2 => .ok (.own xs) (restR ρ1 ρ2 own) else .bad
def cYes : Rho → R Bool := fun ρ => .ok true ρ
structure SC (X : Cx) (w : Wi) (ifs : List Expr) (c : Rho → R Bool) : Prop where
  r : ∀ F : Fx, F.K = X.K → PTs X ifs (tT F w c)
theorem pts_weak {e : List Expr} {t t' : TT} (h : PTs X e t) (i : ∀ σ H Q, t' σ H Q → t σ H Q) : PTs X e t' := ⟨fun pins s σ H Q I q => h.run pins s σ H Q I (i σ H Q q)⟩
theorem sc_nil : SC X w [] cYes := ⟨fun F hF => pts_weak pts_nil fun σ H Q ⟨ρ, G, r, q⟩ => q G H (Same.refl _) r⟩
theorem sc_one {e : Expr} {c : Rho → R Bool} (h : ST X w e c) : SC X w [e] c := ⟨fun F hF => pts_one (h.r F hF)⟩
/-- the wish that nothing is raised -/
def Wi.no (w : Wi) : Wi := ⟨w.ec, fun _ _ _ _ => False⟩
theorem Pt.no {F : Fx} {σ : L2.St} {G : Hp} {Q : Bool → Hp → Prop} : ∀ {r : R Bool}, Pt F w σ G Q (noX r) → Pt F w.no σ G Q r
  | .ok _ _, h => h
  | .exc _ _, h => h.elim
  | .bad, h => h
theorem Po.no {F : Fx} {σ : L2.St} {G : Hp} {α : Type} {N : Rho → Hp → Hp → V → α → Prop} {Q : VK} : ∀ {r : R α}, Po F w σ G N Q (noX r) → Po F w.no σ G N Q r
  | .ok _ _, h => h
  | .exc _ _, h => h.elim
  | .bad, h => h
/-- what a comprehension still owes: the list at A holds acc -/
def Pl (F : Fx) (σ : L2.St) (G : Hp) (A : Addr) (acc : List D) (own : List Nat) (Q : VK) : R (List D) → Prop
  | .ok xs ρ => ∀ G' H' vs, Same G G' → Rel F ρ (L2.wipe σ own) G' H' → H' A = some (.lst vs) → Dqs F.K G' vs (acc ++ xs) → G' A = none → (∀ i, ¬ Hd ρ (L2.wipe σ own) i A) → Q (.ref A) H'
  | _ => False
theorem Pl.mono {F : Fx} {σ : L2.St} {G G' : Hp} {A : Addr} {acc : List D} {own : List Nat} {Q : VK} (e : Same G G') : ∀ {r : R (List D)}, Pl F σ G A acc own Q r → Pl F σ G' A acc own Q r
  | .ok _ _, h => fun G2 H2 vs s => h G2 H2 vs (e.trans s)
  | .exc _ _, h => h
  | .bad, h => h
theorem Rel.updM {F : Fx} {ρ : Rho} {σ : L2.St} {G H : Hp} {A : Addr} {o : HO} (r : Rel F ρ σ G H) (hg : G A = none) (h0 : F.H0 A = none) (hn : ∀ i, ¬ Hd ρ σ i A) : Rel F ρ σ G (upd H A o) := by
  refine r.grow (Same.refl G) (fun b x e => ?_) (fun b x e => ?_) r.g0 fun i p hd => ⟨?_, ?_⟩
  · rw [upd_ne (ne_of_none e hg)]; exact r.gh b x e
  · rw [upd_ne (ne_of_none e h0)]; exact r.h0 b x e
  · have ne : p ≠ A := fun z => hn i (z ▸ hd)
    exact upd_ne ne
  · obtain ⟨_, _, e2, _⟩ := r.hd hd
    exact e2
/-- a comprehension raises nothing -/
theorem lc_nox {t : Tg} {c : Rho → R Bool} {f : Rho → R D} {vs : List Nat} : ∀ (ds : List D) (ρ : Rho) (c' : Nat) (ρ' : Rho), lcGo t c f vs ds ρ ≠ .exc c' ρ' := by
  intro ds
  induction ds with
  | nil => intro ρ c' ρ' h; cases h
  | cons d ds ih =>
    intro ρ c' ρ' h
    unfold lcGo at h
    split at h
    · cases h
    · rename_i ρa _
      cases ec : c ρa with
      | bad => rw [ec] at h; cases h
      | exc c2 ρ2 => rw [ec] at h; cases h
      | ok b ρ2 =>
        rw [ec] at h
        cases b with
        | false => exact ih _ _ _ h
        | true =>
          have h : (noX (f ρ2)).bind (fun x ρ3 => (lcGo t c f vs ds (wipeR ρ3 vs)).bind fun xs ρ4 => .ok (x :: xs) ρ4) = .exc c' ρ' := h
          cases ef : f ρ2 with
          | bad => rw [ef] at h; cases h
          | exc c2 ρ2 => rw [ef] at h; cases h
          | ok x ρ3 =>
            rw [ef] at h
            have h : (lcGo t c f vs ds (wipeR ρ3 vs)).bind (fun xs ρ4 => .ok (x :: xs) ρ4) = .exc c' ρ' := h
            cases el : lcGo t c f vs ds (wipeR ρ3 vs) with
            | bad => rw [el] at h; cases h
            | ok xs ρ4 => rw [el] at h; cases h
            | exc c3 ρ4 => exact ih _ _ _ el
theorem lc_imp {it : Rho → R (List D)} {t : Tg} {c : Rho → R Bool} {f : Rho → R D} {vs : List Nat} (hown : ∀ k, k ∈ t.sl → k ∈ vs) {F : Fx} (hF : F.K = X.K) (σ : L2.St) (H : Hp) (Q : VK) (h : tV F w (vLc it t c f vs) σ H Q) :
    tLc (tI F w it) (fun v σ H Q => ∃ F' : Fx, F'.K = X.K ∧ gT F' t v σ H Q) (fun σ H Q => ∃ F' : Fx, F'.K = X.K ∧ tT F' w.no c σ H Q) (fun σ H Q => ∃ F' : Fx, F'.K = X.K ∧ tE F' w.no f σ H Q) vs σ H Q := by
  obtain ⟨ρ, G, r, q⟩ := h
  refine ⟨ρ, G, r, ?_⟩
  have q2 : Pi F w σ G (fun J H1 => ∃ ds ρ1 G1, Rel F ρ1 σ G1 H1 ∧ Wk F.K G1 ds J ∧ Po F w σ G1 (NvR F σ) Q (if ds.length ≤ lim then (lcGo t c f vs ds (wipeR ρ1 vs)).bind fun xs ρ2 => .ok (.own xs) (restR ρ1 ρ2 vs) else .bad)) (it ρ) := by
    revert q
    unfold vLc
    cases it ρ with
    | ok ds ρ1 => exact fun q J G1 H1 s1 r1 k1 => ⟨ds, ρ1, G1, r1, k1, Po.mono s1 q⟩
    | exc c ρ1 => exact fun q => q
    | bad => exact fun q => q
  have imp : ∀ {r : R (List D)} {P P' : It → Hp → Prop}, (∀ J H, P J H → P' J H) → Pi F w σ G P r → Pi F w σ G P' r := by
    intro r P P' h
    cases r with
    | ok ds ρ1 => exact fun q J G1 H1 s1 r1 k1 => h _ _ (q J G1 H1 s1 r1 k1)
    | exc c ρ1 => exact fun q => q
    | bad => exact fun q => q
  refine imp (fun J H1 ⟨ds, ρ1, G1, r1, wk, q1⟩ => ?_) q2
  by_cases hl : ds.length ≤ lim
  · rw [if_pos hl] at q1
    intro A hA
    have h0 : F.H0 A = none := r1.h0.free hA
    have g0 : G1 A = none := r1.gh.free hA
    have pl0 : Pl F σ G1 A [] vs Q (lcGo t c f vs ds (wipeR ρ1 vs)) := by
      revert q1
      cases e : lcGo t c f vs ds (wipeR ρ1 vs) with
      | ok xs ρ2 =>
        intro q1 G' H' us s' r' hA' hd' gA' hn'
        obtain ⟨rr, bk⟩ := Rel.rest r1 s' r'
        exact q1 (.ref A) G' H' s' rr ⟨A, rfl, gA', h0, fun i hi => hn' i (bk i A hi), us, hA', hd'⟩
      | exc c0 ρ2 =>
        intro q1
        exfalso
        exact lc_nox _ _ _ _ e
      | bad => exact fun q1 => q1
    have rA : Rel F (wipeR ρ1 vs) (L2.wipe σ vs) G1 (upd H1 A (.lst [])) := (r1.wipe vs).laidM hA
    have nA : ∀ i, ¬ Hd (wipeR ρ1 vs) (L2.wipe σ vs) i A := fun i hi => by
      obtain ⟨s, _, _, _, m, _⟩ := (r1.wipe vs).hd hi
      obtain ⟨o, e⟩ := m.some
      rw [hA] at e
      cases e
    refine ⟨fun i m H2 => m = ds.length - i ∧ i ≤ ds.length ∧ ∃ ρ2 G2 acc us, Same G1 G2 ∧ Rel F ρ2 (L2.wipe σ vs) G2 H2 ∧ H2 A = some (.lst us) ∧ Dqs F.K G2 us acc ∧ G2 A = none ∧ (∀ i, ¬ Hd ρ2 (L2.wipe σ vs) i A) ∧ acc.length ≤ i ∧ Pl F σ G2 A acc vs Q (lcGo t c f vs (ds.drop i) ρ2),
      ⟨ds.length, rfl, Nat.zero_le _, wipeR ρ1 vs, G1, [], [], Same.refl _, rA, upd_same, .nil, g0, nA, Nat.le_refl _, pl0⟩, ?_⟩
    rintro i m H2 ⟨rfl, hle, ρ2, G2, acc, us, s2, r2, hA2, hd2, gA2, n2, hac, pl⟩
    obtain ⟨wstop, wgo⟩ := wk i G2 H2 s2 r2.gh
    by_cases hlt : i < ds.length
    · have ed : ds[i]? = some ds[i] := List.getElem?_eq_getElem hlt
      have edr : ds.drop i = ds[i] :: ds.drop (i + 1) := List.drop_eq_getElem_cons hlt
      rw [edr] at pl
      generalize ds[i] = d at *
      obtain ⟨go, yl⟩ := wgo d ed
      refine .inr ⟨go, fun H' => i + 1 ≤ ds.length ∧ ∃ ρ2 G2 acc us, Same G1 G2 ∧ Rel F ρ2 (L2.wipe σ vs) G2 H' ∧ H' A = some (.lst us) ∧ Dqs F.K G2 us acc ∧ G2 A = none ∧ (∀ i, ¬ Hd ρ2 (L2.wipe σ vs) i A) ∧ acc.length ≤ i + 1 ∧ Pl F σ G2 A acc vs Q (lcGo t c f vs (ds.drop (i + 1)) ρ2),
        fun H' h => ⟨ds.length - (i + 1), by omega, rfl, h.1, h.2⟩, fun x H3 y3 => ?_⟩
      have y4 := yl x H3 y3
      obtain ⟨G3, s3, r3, dq3, hA3, gA3⟩ : ∃ G3, Same G2 G3 ∧ Rel F ρ2 (L2.wipe σ vs) G3 H3 ∧ Dq F.K G3 x d ∧ H3 A = some (.lst us) ∧ G3 A = none := by
        rcases y4 with ⟨e, dq⟩ | ⟨T, ws, ds', ex, hT, eH, ed', dqs⟩
        · subst e
          exact ⟨G2, Same.refl _, r2, dq, hA2, gA2⟩
        · subst ex eH ed'
          obtain ⟨s, r', n⟩ := nv_tup r2 hT dqs
          have ne : A ≠ T := ne_of_none hA2 hT
          exact ⟨_, s, r', n, by rw [upd_ne ne]; exact hA2, by rw [upd_ne ne]; exact gA2⟩
      have rf := r3.fr hA3 gA3 n2
      have pl : Pl F σ G3 A acc vs Q (lcGo t c f vs (d :: ds.drop (i + 1)) ρ2) := pl.mono s3
      unfold lcGo at pl
      cases est : setTg t d ρ2 with
      | none => rw [est] at pl; exact pl.elim
      | some ρ3 =>
        rw [est] at pl
        have pl : Pl F σ G3 A acc vs Q ((noX (c ρ3)).bind fun b ρ2 => match b with
          | true => (noX (f ρ2)).bind fun x ρ3 => (lcGo t c f vs (ds.drop (i + 1)) (wipeR ρ3 vs)).bind fun xs ρ4 => .ok (x :: xs) ρ4
          | false => lcGo t c f vs (ds.drop (i + 1)) (wipeR ρ2 vs)) := pl
        refine ⟨F.fr G3 A (.lst us), hF, ρ2, G3, d, ρ3, rf, dq3, est, fun σ2 rσ hlen hout => ?_⟩
        have hw : L2.wipe σ2 vs = L2.wipe σ vs := wipe_eq (by rw [hlen, wipe_length]) fun k hk => by rw [hout k (fun z => hk (hown k z)), wipe_out hk]
        refine ⟨hw, F.fr G3 A (.lst us), hF, ρ3, G3, rσ, ?_⟩
        cases ec : c ρ3 with
        | bad => rw [ec] at pl; exact pl.elim
        | exc c2 ρ4 => rw [ec] at pl; exact pl.elim
        | ok b ρ4 =>
          rw [ec] at pl
          intro G4 H4 s4 r4
          -- the next turn, from a state in which the list still holds us
          have next : ∀ (ρ5 : Rho) (G5 H5 : Hp), Same G3 G5 → Rel (F.fr G3 A (.lst us)) ρ5 σ2 G5 H5 → Rel F ρ5 σ2 G5 H5 ∧ H5 A = some (.lst us) ∧ G5 A = none ∧ Rel F (wipeR ρ5 vs) (L2.wipe σ vs) G5 H5 ∧ ∀ i, ¬ Hd (wipeR ρ5 vs) (L2.wipe σ vs) i A := by
            intro ρ5 G5 H5 s5 r5
            obtain ⟨z1, z2, z3, z4⟩ := Rel.unfr r3 gA3 h0 r5
            have z5 := z1.wipe vs
            rw [hw] at z5
            refine ⟨z1, z2, z3, z5, fun i hi => ?_⟩
            rw [← hw] at hi
            obtain ⟨s, e, m, es⟩ := hi
            by_cases hv : i ∈ vs
            · by_cases hl2 : i < ρ5.length
              · rw [wipeR_in hv hl2] at e
                cases e
                cases m
              · rw [List.getElem?_eq_none (by rw [wipeR_len]; omega)] at e
                cases e
            · rw [wipeR_out hv] at e
              rw [wipe_out hv] at es
              exact z4 i ⟨s, e, m, es⟩
          cases b with
          | false =>
            rw [if_neg Bool.false_ne_true]
            obtain ⟨_, z2, z3, z5, z6⟩ := next ρ4 G4 H4 s4 r4
            exact ⟨hlt, wipeR ρ4 vs, G4, acc, us, s2.trans (s3.trans s4), z5, z2, hd2.mono (s3.trans s4), z3, z6, Nat.le_succ_of_le hac, pl.mono s4⟩
          | true =>
            rw [if_pos rfl]
            refine ⟨F.fr G3 A (.lst us), hF, ρ4, G4, r4, ?_⟩
            have pl : Pl F σ G3 A acc vs Q ((noX (f ρ4)).bind fun x ρ3 => (lcGo t c f vs (ds.drop (i + 1)) (wipeR ρ3 vs)).bind fun xs ρ4 => .ok (x :: xs) ρ4) := pl
            cases ef : f ρ4 with
            | bad => rw [ef] at pl; exact pl.elim
            | exc c2 ρ5 => rw [ef] at pl; exact pl.elim
            | ok y ρ5 =>
              rw [ef] at pl
              intro v G5 H5 s5 r5 n5
              obtain ⟨_, z2, z3, z5, z6⟩ := next ρ5 G5 H5 (s4.trans s5) r5
              have ul : us.length ≤ i := by rw [hd2.length]; exact hac
              refine ⟨us, z2, lim_lt (by omega), hlt, wipeR ρ5 vs, G5, acc ++ [y], us ++ [v], s2.trans (s3.trans (s4.trans s5)), z5.updM z3 h0 z6, upd_same, (hd2.mono (s3.trans (s4.trans s5))).append (.cons n5 .nil), z3, z6, by rw [List.length_append, List.length_singleton]; omega, ?_⟩
              have pl : Pl F σ G5 A acc vs Q ((lcGo t c f vs (ds.drop (i + 1)) (wipeR ρ5 vs)).bind fun xs ρ4 => .ok (y :: xs) ρ4) := Pl.mono (s4.trans s5) pl
              revert pl
              cases lcGo t c f vs (ds.drop (i + 1)) (wipeR ρ5 vs) with
              | ok xs ρ6 =>
                intro pl G6 H6 ws s6 r6 hA6 hd6 gA6 hn6
                rw [List.append_assoc] at hd6
                exact pl G6 H6 ws s6 r6 hA6 hd6 gA6 hn6
              | exc c3 ρ6 => exact fun pl => pl
              | bad => exact fun pl => pl
    · have e : i = ds.length := by omega
      subst e
      rw [List.drop_length] at pl
      refine .inl ⟨wstop (Nat.le_refl _), ?_⟩
      exact pl G2 H2 us (Same.refl _) r2 hA2 (by rw [List.append_nil]; exact hd2) gA2 n2
  · rw [if_neg hl] at q1
    exact q1.elim
theorem sv_lc {elt tg iter : Expr} {ifs : List Expr} {scope : Scope} {own : List (Str × Nat)} {pos : Pos} {it : Rho → R (List D)} {t : Tg} {c : Rho → R Bool} {f : Rho → R D} (hc : X.calm = true) (hN : X.N.Nodup) (hi : SI X w tg iter it) (ok : BlkOk X.N X.env.scope scope own)
    (hg : ∀ (s : Shared) (H : Hp) (C : Addr) (cl : List (Str × Addr)) (fp : List Addr), SG (X.blk s H scope (compEnvC scope cl C X.env) fp) tg t)
    (ht : ∀ (s : Shared) (H : Hp) (C : Addr) (cl : List (Str × Addr)) (fp : List Addr), SC (X.blk s H scope (compEnvC scope cl C X.env) fp) w.no ifs c)
    (he : ∀ (s : Shared) (H : Hp) (C : Addr) (cl : List (Str × Addr)) (fp : List Addr), SE (X.blk s H scope (compEnvC scope cl C X.env) fp) w.no elt f)
    (hs : ∀ x, foldedSetIterable iter X.env x = pure x) (hown : ∀ k, k ∈ t.sl → k ∈ own.map (·.2)) : SV X w (.ListComp elt [⟨tg, iter, ifs, 0⟩] scope pos) (vLc it t c f (own.map (·.2))) :=
  ⟨fun F hF => pe_weak (pe_lc (pos := pos) (g := fun v σ H Q => ∃ F' : Fx, F'.K = X.K ∧ gT F' t v σ H Q) (tt := fun σ H Q => ∃ F' : Fx, F'.K = X.K ∧ tT F' w.no c σ H Q) (te := fun σ H Q => ∃ F' : Fx, F'.K = X.K ∧ tE F' w.no f σ H Q) hc hN (hi.r F hF) ok
    (fun s H C cl fp => ⟨fun pins s' σ H' v u Q I r ⟨F', hF', q⟩ => ((hg s H C cl fp).r F' hF').run pins s' σ H' v u Q I r q⟩)
    (fun s H C cl fp => ⟨fun pins s' σ H' Q I ⟨F', hF', q⟩ => ((ht s H C cl fp).r F' hF').run pins s' σ H' Q I q⟩)
    (fun s H C cl fp => ⟨fun pins s' σ H' Q I ⟨F', hF', q⟩ => ((he s H C cl fp).r F' hF').run pins s' σ H' Q I q⟩) hs) (lc_imp hown hF)⟩
end
section
variable {X : Cx} {w : Wi}
/-- len(x), x a name: a mutable thing stays where it is -/
def vLenV (i : Nat) : Rho → R Vl := fun ρ => match ρ[i]? with
  | some (.own ds) => .ok (.d (.int ds.length)) ρ
  | some (.io ds) => .ok (.d (.int ds.length)) ρ
  | some (.dct kvs) => .ok (.d (.int kvs.length)) ρ
  | some (.val (.lst ds)) => .ok (.d (.int ds.length)) ρ
  | some (.val (.tup ds)) => .ok (.d (.int ds.length)) ρ
  | some (.val (.scr ns)) => .ok (.d (.int ns.length)) ρ
  | _ => .bad
theorem sv_lenV {i : Nat} {x : Str} {p px pos : Pos} (hg : Gl X "len") (hm : X.mg "len" = none) (hN : X.N[i]? = some x) (hv : Vis X.env.scope x) (hd : (x == ("__debug__" : Str)) = false) (hcd : (x == ("__classdict__" : Str)) = false) :
    SV X w (.Call (.Name "len" p) [.Name x px] [] pos) (vLenV i) := by
  refine ⟨fun F hF => pe_weak (pe_callB (call_len_seq.or call_lenD) hg hm boot_len (pa_cons (pe_var hN hv hd hcd) pa_nil)) fun σ H Q ⟨ρ, G, r, q⟩ => ?_⟩
  unfold vLenV at q
  have fin : ∀ n : Nat, Po F w σ G (NvR F σ) Q (.ok (.d (.int n)) ρ) → Q (.int n) H := fun n q => q _ G H (Same.refl _) r (.int n)
  have mu : ∀ {s : Sl}, ρ[i]? = some s → s.mu = true → ∃ p, σ[i]? = some (some (.ref p)) ∧ Mo F.K G H p s := fun e m => by
    obtain ⟨p, e1, _, _, e4, _⟩ := own_so r e m
    exact ⟨p, e1, e4⟩
  split at q
  · rename_i ds e
    obtain ⟨p, e1, vs, hp, hd⟩ := mu e rfl
    exact ⟨_, e1, .inl ⟨_, _, rfl, .inl (SqL.of hp), by rw [hd.length]; exact fin _ q⟩⟩
  · rename_i ds e
    obtain ⟨p, e1, vs, hp, hd⟩ := mu e rfl
    exact ⟨_, e1, .inl ⟨_, _, rfl, .inl (SqL.of hp), by rw [hd.length]; exact fin _ q⟩⟩
  · rename_i ds e
    obtain ⟨p, e1, vs, hp, hd⟩ := mu e rfl
    exact ⟨_, e1, .inr ⟨_, _, rfl, hp, by rw [hd.length]; exact fin _ q⟩⟩
  · rename_i ds e
    obtain ⟨v, e1, m⟩ := r.sl i _ e
    cases m with
    | lst h1 m1 => exact ⟨_, e1, .inl ⟨_, _, rfl, .inl (SqL.of (r.gh _ _ h1)), by rw [m1.length]; exact fin _ q⟩⟩
  · rename_i ds e
    obtain ⟨v, e1, m⟩ := r.sl i _ e
    cases m with
    | tup h1 m1 => exact ⟨_, e1, .inl ⟨_, _, rfl, .inr (hF ▸ mem_G r h1), by rw [m1.length]; exact fin _ q⟩⟩
  · rename_i ns e
    obtain ⟨v, e1, m⟩ := r.sl i _ e
    cases m with
    | scr h1 => exact ⟨_, e1, .inl ⟨_, _, rfl, .inl (hF ▸ r.gh.seq h1), by rw [List.length_map]; exact fin _ q⟩⟩
  · exact q.elim
/-- f() -/
theorem pe_call0S {CX : CXT} {k : Nat} {f : Addr} {fd : FuncData} {ps : List Str} {sp : Sp} {E : L2.St → XK} {x : Str} {p pos : Pos} (F : FnOk X.prog X.w X.K X.mg X.base CX k f fd ps sp) (hr : Room k X.A) (hg : Gl X x) (hm : X.mg x = some (.ref f)) (hk : PySem.W.keepIn X.K (.ref f) = true)
    (hb : L2.Binds X.K fd ps []) (hx : ∀ σ, PassesAt CX X σ (E σ)) (hdb : (x == ("__debug__" : Str)) = false) : PE X (.Call (.Name x p) [] [] pos) (tCallS sp E tNil) := by
  refine ⟨fun pins s σ H Q I h => ?_⟩
  refine wpAny_Call_Name_kw (ld_glob I hg hm ?_ hdb)
  exact PySem.W.callWith_K0 I.kIn hk (run_fnS (us := []) F hr hb (hx σ) I .nil h)
theorem sv_call0 {k n : Nat} {f : Addr} {fd : FuncData} {ps : List Str} {sem : List D → RF} {x : Str} {p pos : Pos} (F : FnOk X.prog X.w X.K X.mg X.base (CX X.prog X.w) k f fd ps (spP X.K w.ec n sem)) (hr : Room k X.A) (hg : Gl X x) (hm : X.mg x = some (.ref f))
    (hk : PySem.W.keepIn X.K (.ref f) = true) (hb : L2.Binds X.K fd ps []) (tk : Takes X w.W) (hd : (x == ("__debug__" : Str)) = false) : SV X w (.Call (.Name x p) [] [] pos) (callP n sem aNil) :=
  ⟨fun F' hF => pe_weak (pe_call0S F hr hg hm hk hb (fun σ => passAt tk σ) hd) fun σ H Q ⟨ρ, G, r, q⟩ => by
    unfold callP aNil at q
    have q1 := q
    simp only [R.bind] at q1
    by_cases hl : ([] : List D).length = n
    · rw [if_pos hl] at q1
      refine ⟨hl, G, [], r.gh, .nil, ?_⟩
      cases es : sem [] with
      | bad => rw [es] at q1; exact q1.elim
      | exc c =>
        rw [es] at q1
        intro H2 h2
        exact q1 G H2 (Same.refl _) (r.after (Same.refl _) (r.gh.trans h2) h2 fun a o e => .inl e)
      | ok d io =>
        rw [es] at q1
        intro v G2 H2 s2 g2 h2 n2 dq
        exact q1 v G2 H2 s2 (r.after s2 g2 h2 n2) (show Dq F'.K G2 v d from hF ▸ dq)
    · rw [if_neg hl] at q1
      exact q1.elim⟩
end
end PF
end
section
namespace PF
open PySem PySem.Spec PyProof.Rows L2

/-! statements -/
inductive Fl where
  | nx (ρ : Rho) | ret (d : D) (ρ : Rho) | exc (c : Nat) (ρ : Rho) | bad
def Ps (F : Fx) (w : Wi) (D : Ends) (G : Hp) : Fl → Prop
  | .nx ρ => ∀ σ' G' H', Same G G' → Rel F ρ σ' G' H' → D.nx σ' H'
  | .ret d ρ => ∀ v σ' G' H', Same G G' → Rel F ρ σ' G' H' → Dq F.K G' v d → D.rt v H'
  | .exc c ρ => ∀ σ' G' H', Same G G' → Rel F ρ σ' G' H' → w.W (.ref (w.ec c)) none σ' H'
  | .bad => False
theorem Ps.mono {F : Fx} {w : Wi} {D : Ends} {G G' : Hp} (e : Same G G') : ∀ {f : Fl}, Ps F w D G f → Ps F w D G' f
  | .nx _, h => fun σ' G2 H2 s => h σ' G2 H2 (e.trans s)
  | .ret _ _, h => fun v σ' G2 H2 s => h v σ' G2 H2 (e.trans s)
  | .exc _ _, h => fun σ' G2 H2 s => h σ' G2 H2 (e.trans s)
  | .bad, h => h
def tS (F : Fx) (w : Wi) (f : Rho → Fl) : TS := fun D σ H => ∃ ρ G, Rel F ρ σ G H ∧ Ps F w D G (f ρ)
structure SS (X : Cx) (w : Wi) (st : Stmt) (f : Rho → Fl) : Prop where
  r : ∀ F : Fx, F.K = X.K → PS X st (tS F w f)
structure SSs (X : Cx) (w : Wi) (st : List Stmt) (f : Rho → Fl) : Prop where
  r : ∀ F : Fx, F.K = X.K → PSs X st (tS F w f)
theorem ps_weak {X : Cx} {e : Stmt} {t t' : TS} (h : PS X e t) (i : ∀ D σ H, t' D σ H → t D σ H) : PS X e t' := ⟨fun pins s σ H D I q => h.run pins s σ H D I (i D σ H q)⟩
theorem pss_weak {X : Cx} {e : List Stmt} {t t' : TS} (h : PSs X e t) (i : ∀ D σ H, t' D σ H → t D σ H) : PSs X e t' := ⟨fun pins s σ H D I q => h.run pins s σ H D I (i D σ H q)⟩
/-- an expression's outcome, then a statement's -/
def R.fl {α : Type} (r : R α) (k : α → Rho → Fl) : Fl := match r with
  | .ok a ρ => k a ρ
  | .exc c ρ => .exc c ρ
  | .bad => .bad
def Fl.seq (f : Fl) (k : Rho → Fl) : Fl := match f with
  | .nx ρ => k ρ
  | f => f
section
variable {X : Cx} {w : Wi}
theorem Ps.val {F : Fx} {D : Ends} {σ : L2.St} {G : Hp} {α : Type} {N : Rho → Hp → Hp → V → α → Prop} {k : α → Rho → Fl} : ∀ {r : R α}, Ps F w D G (r.fl k) → Po F w σ G N (fun v H' => ∃ a ρ' G', Same G G' ∧ Rel F ρ' σ G' H' ∧ N ρ' G' H' v a ∧ Ps F w D G' (k a ρ')) r
  | .ok a ρ, h => fun v G2 H2 s r n => ⟨a, ρ, G2, s, r, n, Ps.mono s h⟩
  | .exc _ _, h => fun G2 H2 s r => h σ G2 H2 s r
  | .bad, h => h
theorem Ps.test {F : Fx} {D : Ends} {σ : L2.St} {G : Hp} {k : Bool → Rho → Fl} : ∀ {r : R Bool}, Ps F w D G (r.fl k) → Pt F w σ G (fun b H' => ∃ ρ' G', Same G G' ∧ Rel F ρ' σ G' H' ∧ Ps F w D G' (k b ρ')) r
  | .ok a ρ, h => fun G2 H2 s r => ⟨ρ, G2, s, r, Ps.mono s h⟩
  | .exc _ _, h => fun G2 H2 s r => h σ G2 H2 s r
  | .bad, h => h
theorem ss_nil : SSs X w [] .nx := ⟨fun F hF => pss_weak pss_nil fun D σ H ⟨ρ, G, r, q⟩ => q σ G H (Same.refl _) r⟩
theorem ss_one {st : Stmt} {f : Rho → Fl} (h : SS X w st f) : SSs X w [st] f := ⟨fun F hF => pss_one (h.r F hF)⟩
theorem Ps.seq {F : Fx} {D : Ends} {G : Hp} {k : Rho → Fl} : ∀ {f : Fl}, Ps F w D G (f.seq k) → Ps F w { D with nx := tS F w k D } G f
  | .nx ρ, h => fun σ' G2 H2 s r => ⟨ρ, G2, r, Ps.mono s h⟩
  | .ret _ _, h => h
  | .exc _ _, h => h
  | .bad, h => h
theorem ss_cons {st : Stmt} {rest : List Stmt} {f g : Rho → Fl} (h : SS X w st f) (hr : SSs X w rest g) : SSs X w (st :: rest) (fun ρ => (f ρ).seq g) :=
  ⟨fun F hF => pss_weak (pss_cons (h.r F hF) (hr.r F hF)) fun D σ H ⟨ρ, G, r, q⟩ => ⟨ρ, G, r, q.seq⟩⟩

/-! stores -/
/-- a new value into a slot -/
theorem Rel.put {F : Fx} {ρ : Rho} {σ : L2.St} {G H : Hp} {i : Nat} {v : V} {a : Vl} (r : Rel F ρ σ G H) (n : Nv F ρ σ G H v a) : Rel F (ρ.set i a.sl) (σ.set i (some v)) G H := by
  cases a with
  | d x => exact r.store n
  | own ds => obtain ⟨p, rfl, g, h0, hn, m⟩ := n; exact r.storeM g h0 m rfl hn
  | dct ds => obtain ⟨p, rfl, g, h0, hn, m⟩ := n; exact r.storeM g h0 m rfl hn
  | dtp ds => obtain ⟨p, rfl, g, h0, hn, m⟩ := n; exact r.storeM g h0 m rfl hn
def stIn (i : Nat) (a : Vl) (ρ : Rho) : Fl := match setS i a.sl ρ with
  | some ρ' => .nx ρ'
  | none => .bad
def fAsg (i : Nat) (f : Rho → R Vl) : Rho → Fl := fun ρ => (f ρ).fl (stIn i)
theorem asg_t {F : Fx} {f : Rho → R Vl} {i : Nat} (D : Ends) (σ : L2.St) (H : Hp) (h : tS F w (fAsg i f) D σ H) : tV F w f σ H (fun x H1 => gName i x σ H1 D.nx) := by
  obtain ⟨ρ, G, r, q⟩ := h
  refine ⟨ρ, G, r, (Ps.val (N := NvR F σ) q).imp fun v H1 ⟨a, ρ1, G1, s1, r1, n1, q1⟩ => ?_⟩
  unfold stIn at q1
  cases e : setS i a.sl ρ1 with
  | none => rw [e] at q1; exact q1.elim
  | some ρ' =>
    rw [e] at q1
    have e := setS_ok e
    subst e
    exact q1 _ G1 H1 (Same.refl _) (r1.put n1)
theorem ss_asg {i : Nat} {x : Str} {e : Expr} {f : Rho → R Vl} {p pos : Pos} (hN : X.N.Nodup) (hi : X.N[i]? = some x) (hx : Loc X.env.scope x) (he : SV X w e f) (hs : swapsWith e (some (.Name x p)) pos.line X.env = pure false)
    (hf : X.fn x = true ∨ X.env.scope.names.lookup x = some .local) : SS X w (.Assign [.Name x p] e pos) (fAsg i f) :=
  ⟨fun F hF => ps_weak (ps_set hN hi hx (he.r F hF) hs hf) fun D σ H h => asg_t D σ H h⟩
/-- y = [ .. for ..], stores exchanged -/
theorem ss_asgLc {i : Nat} {y : Str} {py : Pos} {elt tg iter : Expr} {ifs : List Expr} {scope : Scope} {own : List (Str × Nat)} {pos spos : Pos} {it : Rho → R (List D)} {t : Tg} {c : Rho → R Bool} {f : Rho → R D} (hc : X.calm = true) (hN : X.N.Nodup) (hy : X.N[i]? = some y) (hyl : X.env.scope.names.lookup y = some .local)
    (hsw : swapsWith (.ListComp elt [⟨tg, iter, ifs, 0⟩] scope pos) (some (.Name y py)) spos.line X.env = pure true) (hi : SI X w tg iter it) (ok : BlkOk X.N X.env.scope scope own)
    (hg : ∀ (s : Shared) (H : Hp) (C : Addr) (cl : List (Str × Addr)) (fp : List Addr), SG (X.blk s H scope (compEnvC scope cl C X.env) fp) tg t)
    (ht : ∀ (s : Shared) (H : Hp) (C : Addr) (cl : List (Str × Addr)) (fp : List Addr), SC (X.blk s H scope (compEnvC scope cl C X.env) fp) w.no ifs c)
    (he : ∀ (s : Shared) (H : Hp) (C : Addr) (cl : List (Str × Addr)) (fp : List Addr), SE (X.blk s H scope (compEnvC scope cl C X.env) fp) w.no elt f)
    (hs : ∀ x, foldedSetIterable iter X.env x = pure x) (hown : ∀ k, k ∈ t.sl → k ∈ own.map (·.2)) : SS X w (.Assign [.Name y py] (.ListComp elt [⟨tg, iter, ifs, 0⟩] scope pos) spos) (fAsg i (vLc it t c f (own.map (·.2)))) :=
  ⟨fun F hF => ps_weak (ps_setLc (pos := pos) (g := fun v σ H Q => ∃ F' : Fx, F'.K = X.K ∧ gT F' t v σ H Q) (tt := fun σ H Q => ∃ F' : Fx, F'.K = X.K ∧ tT F' w.no c σ H Q) (te := fun σ H Q => ∃ F' : Fx, F'.K = X.K ∧ tE F' w.no f σ H Q) hc hN hy hyl hsw (hi.r F hF) ok
    (fun s H C cl fp => ⟨fun pins s' σ H' v u Q I r ⟨F', hF', q⟩ => ((hg s H C cl fp).r F' hF').run pins s' σ H' v u Q I r q⟩)
    (fun s H C cl fp => ⟨fun pins s' σ H' Q I ⟨F', hF', q⟩ => ((ht s H C cl fp).r F' hF').run pins s' σ H' Q I q⟩)
    (fun s H C cl fp => ⟨fun pins s' σ H' Q I ⟨F', hF', q⟩ => ((he s H C cl fp).r F' hF').run pins s' σ H' Q I q⟩) hs) fun D σ H h => lc_imp hown hF σ H _ (asg_t D σ H h)⟩
/-- a target (a name, a pair) = data -/
def fAsgT (t : Tg) (f : Rho → R D) : Rho → Fl := fun ρ => (f ρ).fl fun d ρ1 => match setTg t d ρ1 with
  | some ρ' => .nx ρ'
  | none => .bad
theorem ss_asgT {t : Tg} {tg e : Expr} {f : Rho → R D} {pos : Pos} (hg : SG X tg t) (he : SE X w e f) (hs : swapsWithSole [tg] e pos.line X.env = pure false) (hw : swappedStores [tg] e X.env = pure none) (h1 : (assignEach [tg] X.env).map (·.2) = [assign tg X.env]) :
    SS X w (.Assign [tg] e pos) (fAsgT t f) := ⟨fun F hF => ps_weak (ps_asg (he.r F hF) (hg.r F hF) hs hw h1) fun D σ H ⟨ρ, G, r, q⟩ => ⟨ρ, G, r, (Ps.val q).imp fun v H1 ⟨d, ρ1, G1, s1, r1, n1, q1⟩ => by
  cases e : setTg t d ρ1 with
  | none => rw [e] at q1; exact q1.elim
  | some ρ' =>
    rw [e] at q1
    exact ⟨ρ1, G1, d, ρ', r1, n1, e, fun σ' r' _ _ => q1 σ' G1 H1 (Same.refl _) r'⟩⟩⟩
/-- a, b = e1, e2 with plain local names -/
def fPar (i j : Nat) (f g : Rho → R Vl) : Rho → Fl := fun ρ => (f ρ).fl fun a ρ1 => (g ρ1).fl fun b ρ2 => match (setS i a.sl ρ2).bind (setS j b.sl) with
  | some ρ' => .nx ρ'
  | none => .bad
/-- a new thing is kept through the next part -/
theorem nv_keep {F : Fx} {ρ : Rho} {σ : L2.St} {G H : Hp} {v : V} {a : Vl} (r : Rel F ρ σ G H) (n : Nv F ρ σ G H v a) : ∃ F1 : Fx, F1.K = F.K ∧ Rel F1 ρ σ G H ∧ ∀ ρ' G' H', Same G G' → Rel F1 ρ' σ G' H' → Rel F ρ' σ G' H' ∧ Nv F ρ' σ G' H' v a ∧ ∀ u b, Nv F1 ρ' σ G' H' u b → Nv F ρ' σ G' H' u b ∧ ∀ p q, a.sl.mu = true → b.sl.mu = true → v = .ref p → u = .ref q → p ≠ q := by
  have go : ∀ (p : Addr) (o : HO), H p = some o → G p = none → F.H0 p = none → (∀ i, ¬ Hd ρ σ i p) → ∃ F1 : Fx, F1.K = F.K ∧ Rel F1 ρ σ G H ∧ ∀ ρ' G' H', Rel F1 ρ' σ G' H' → Rel F ρ' σ G' H' ∧ H' p = some o ∧ G' p = none ∧ (∀ i, ¬ Hd ρ' σ i p) ∧ ∀ u b, Nv F1 ρ' σ G' H' u b → Nv F ρ' σ G' H' u b ∧ ∀ q, b.sl.mu = true → u = .ref q → p ≠ q := by
    intro p o hp hg h0 hn
    refine ⟨F.fr G p o, rfl, r.fr hp hg hn, fun ρ' G' H' r' => ?_⟩
    obtain ⟨z1, z2, z3, z4⟩ := Rel.unfr r hg h0 r'
    refine ⟨z1, z2, z3, z4, fun u b nb => ?_⟩
    have zz : ∀ q, (F.fr G p o).H0 q = none → F.H0 q = none ∧ p ≠ q := fun q e => by
      by_cases hq : q = p
      · have e : upd F.H0 p o q = none := e
        rw [hq, upd_same] at e
        cases e
      · exact ⟨(upd_ne (H := F.H0) (o := o) hq).symm.trans e, fun z => hq z.symm⟩
    cases b with
    | d x => exact ⟨nb, fun q m => by cases m⟩
    | own ds =>
      obtain ⟨q, e, a1, a2, a3, a4⟩ := nb
      exact ⟨⟨q, e, a1, (zz q a2).1, a3, a4⟩, fun q' _ e' => by rw [e] at e'; cases e'; exact (zz q a2).2⟩
    | dct ds =>
      obtain ⟨q, e, a1, a2, a3, a4⟩ := nb
      exact ⟨⟨q, e, a1, (zz q a2).1, a3, a4⟩, fun q' _ e' => by rw [e] at e'; cases e'; exact (zz q a2).2⟩
    | dtp ds =>
      obtain ⟨q, e, a1, a2, a3, a4⟩ := nb
      exact ⟨⟨q, e, a1, (zz q a2).1, a3, a4⟩, fun q' _ e' => by rw [e] at e'; cases e'; exact (zz q a2).2⟩
  cases a with
  | d x => exact ⟨F, rfl, r, fun ρ' G' H' s r' => ⟨r', n.mono s, fun u b nb => ⟨nb, fun p q m => by cases m⟩⟩⟩
  | own ds =>
    obtain ⟨p, rfl, hg, h0, hn, vs, hp, hd⟩ := n
    obtain ⟨F1, e1, r1, k⟩ := go p _ hp hg h0 hn
    refine ⟨F1, e1, r1, fun ρ' G' H' s r' => ?_⟩
    obtain ⟨z1, z2, z3, z4, z5⟩ := k ρ' G' H' r'
    exact ⟨z1, ⟨p, rfl, z3, h0, z4, vs, z2, hd.mono s⟩, fun u b nb => ⟨(z5 u b nb).1, fun p' q _ m e e' => by cases e; exact (z5 u b nb).2 q m e'⟩⟩
  | dct ds =>
    obtain ⟨p, rfl, hg, h0, hn, vs, hp, hd⟩ := n
    obtain ⟨F1, e1, r1, k⟩ := go p _ hp hg h0 hn
    refine ⟨F1, e1, r1, fun ρ' G' H' s r' => ?_⟩
    obtain ⟨z1, z2, z3, z4, z5⟩ := k ρ' G' H' r'
    exact ⟨z1, ⟨p, rfl, z3, h0, z4, vs, z2, hd.imp fun a b ⟨x, y⟩ => ⟨x, y.mono s⟩⟩, fun u b nb => ⟨(z5 u b nb).1, fun p' q _ m e e' => by cases e; exact (z5 u b nb).2 q m e'⟩⟩
  | dtp ds =>
    obtain ⟨p, rfl, hg, h0, hn, vs, hp, hd⟩ := n
    obtain ⟨F1, e1, r1, k⟩ := go p _ hp hg h0 hn
    refine ⟨F1, e1, r1, fun ρ' G' H' s r' => ?_⟩
    obtain ⟨z1, z2, z3, z4, z5⟩ := k ρ' G' H' r'
    exact ⟨z1, ⟨p, rfl, z3, h0, z4, vs, z2, hd.imp fun a b ⟨x, y⟩ => ⟨x, y.mono s⟩⟩, fun u b nb => ⟨(z5 u b nb).1, fun p' q _ m e e' => by cases e; exact (z5 u b nb).2 q m e'⟩⟩
/-- behind a store of a at i, the thing b is still new -/
theorem nv_set {F : Fx} {ρ : Rho} {σ : L2.St} {G H : Hp} {i : Nat} {v u : V} {a b : Vl} (n : Nv F ρ σ G H v a) (m : Nv F ρ σ G H u b) (h : ∀ p q, a.sl.mu = true → b.sl.mu = true → v = .ref p → u = .ref q → p ≠ q) : Nv F (ρ.set i a.sl) (σ.set i (some v)) G H u b := by
  have go : ∀ q, u = .ref q → b.sl.mu = true → (∀ j, ¬ Hd ρ σ j q) → ∀ j, ¬ Hd (ρ.set i a.sl) (σ.set i (some v)) j q := by
    intro q hu hb hn j ⟨s, e, ms, es⟩
    by_cases hj : i = j
    · subst hj
      by_cases hl : i < ρ.length
      · rw [List.getElem?_set_self hl] at e
        have e := Option.some.inj e
        subst e
        by_cases hl2 : i < σ.length
        · rw [List.getElem?_set_self hl2] at es
          have es : v = .ref q := Option.some.inj (Option.some.inj es)
          exact h q q ms hb es hu rfl
        · rw [List.getElem?_eq_none (by rw [List.length_set]; omega)] at es
          cases es
      · rw [List.getElem?_eq_none (by rw [List.length_set]; omega)] at e
        cases e
    · rw [List.getElem?_set_ne hj] at e es
      exact hn j ⟨s, e, ms, es⟩
  cases b with
  | d x => exact m
  | own ds => obtain ⟨q, e, a1, a2, a3, a4⟩ := m; exact ⟨q, e, a1, a2, go q e rfl a3, a4⟩
  | dct ds => obtain ⟨q, e, a1, a2, a3, a4⟩ := m; exact ⟨q, e, a1, a2, go q e rfl a3, a4⟩
  | dtp ds => obtain ⟨q, e, a1, a2, a3, a4⟩ := m; exact ⟨q, e, a1, a2, go q e rfl a3, a4⟩
end
end PF
end
section
namespace PF
open PySem PySem.Spec PyProof.Rows L2
section
variable {X : Cx} {w : Wi}
/-- an outcome under a narrower frame -/
theorem Po.conv {F F1 : Fx} {D : Ends} {σ : L2.St} {G : Hp} {α : Type} {N : Rho → Hp → Hp → V → α → Prop} {k : α → Rho → Fl} (h : ∀ ρ' G' H', Same G G' → Rel F1 ρ' σ G' H' → Rel F ρ' σ G' H') : ∀ {r : R α}, Ps F w D G (r.fl k) →
    Po F1 w σ G N (fun v H' => ∃ a ρ' G', Same G G' ∧ Rel F1 ρ' σ G' H' ∧ N ρ' G' H' v a ∧ Ps F w D G' (k a ρ')) r
  | .ok a ρ, q => fun v G2 H2 s r n => ⟨a, ρ, G2, s, r, n, Ps.mono s q⟩
  | .exc _ _, q => fun G2 H2 s r => q σ G2 H2 s (h _ _ _ s r)
  | .bad, q => q
theorem SV.ex {e : Expr} {f : Rho → R Vl} (h : SV X w e f) : PE X e (fun σ H Q => ∃ F : Fx, F.K = X.K ∧ tV F w f σ H Q) := ⟨fun pins s σ H Q I ⟨F, hF, q⟩ => (h.r F hF).run pins s σ H Q I q⟩
theorem ss_par {i j : Nat} {x y : Str} {a b : Expr} {f g : Rho → R Vl} {px py pt pos : Pos} {kt k2 pt2} (hc : X.calm = true) (hN : X.N.Nodup) (hi : X.N[i]? = some x) (hj : X.N[j]? = some y) (hij : i ≠ j) (hx : X.env.scope.names.lookup x = some .local) (hy : X.env.scope.names.lookup y = some .local) (ha : SV X w a f) (hb : SV X w b g)
    (h1 : starEach (a :: [b]) X.env = (false, eval a X.env) :: starEach [b] X.env) (h2 : starEach (b :: []) X.env = (false, eval b X.env) :: starEach [] X.env)
    (hw : swappedStores [.Tuple [.Name x px, .Name y py] kt pt] (.Tuple [a, b] k2 pt2) X.env = pure (some [x, y])) (hs : swapsWithSole [.Tuple [.Name x px, .Name y py] kt pt] (.Tuple [a, b] k2 pt2) pos.line X.env = pure false) :
    SS X w (.Assign [.Tuple [.Name x px, .Name y py] kt pt] (.Tuple [a, b] k2 pt2) pos) (fPar i j f g) :=
  ⟨fun F hF => ps_weak (ps_par hc hN hi hj hij hx hy (pa_cons (ha.r F hF) (pa_cons hb.ex pa_nil h2) h1) hw hs) fun D σ H ⟨ρ, G, r, q⟩ => ⟨ρ, G, r, (Ps.val (N := NvR F σ) q).imp fun v H1 ⟨a, ρ1, G1, s1, r1, n1, q1⟩ => by
    obtain ⟨F1, eK, rf, kp⟩ := nv_keep r1 n1
    refine ⟨F1, eK.trans hF, ρ1, G1, rf, (Po.conv (N := NvR F1 σ) (fun ρ' G' H' s r' => (kp ρ' G' H' s r').1) q1).imp fun u H2 ⟨b, ρ2, G2, s2, r2, n2, q2⟩ => ⟨v, u, rfl, ?_⟩⟩
    obtain ⟨z1, z2, z3⟩ := kp ρ2 G2 H2 s2 r2
    obtain ⟨z4, z5⟩ := z3 u b n2
    cases e : (setS i a.sl ρ2).bind (setS j b.sl) with
    | none => rw [e] at q2; exact q2.elim
    | some ρ' =>
      rw [e] at q2
      obtain ⟨ρ3, e1, e2⟩ := Option.bind_eq_some_iff.mp e
      have e1 := setS_ok e1
      have e2 := setS_ok e2
      subst e1 e2
      exact q2 _ G2 H2 (Same.refl _) ((z1.put z2).put (nv_set z2 z4 z5))⟩⟩
def fPar3 (i j l : Nat) (f g h : Rho → R Vl) : Rho → Fl := fun ρ => (f ρ).fl fun a ρ1 => (g ρ1).fl fun b ρ2 => (h ρ2).fl fun c ρ3 => match ((setS i a.sl ρ3).bind (setS j b.sl)).bind (setS l c.sl) with
  | some ρ' => .nx ρ'
  | none => .bad
theorem ss_par3 {i j l : Nat} {x y z : Str} {a b c : Expr} {f g h : Rho → R Vl} {px py pz pt pos : Pos} {kt k2 pt2} (hc : X.calm = true) (hN : X.N.Nodup) (hi : X.N[i]? = some x) (hj : X.N[j]? = some y) (hl : X.N[l]? = some z) (hij : i ≠ j) (hil : i ≠ l) (hjl : j ≠ l)
    (hx : X.env.scope.names.lookup x = some .local) (hy : X.env.scope.names.lookup y = some .local) (hz : X.env.scope.names.lookup z = some .local) (ha : SV X w a f) (hb : SV X w b g) (hcc : SV X w c h)
    (h1 : starEach (a :: [b, c]) X.env = (false, eval a X.env) :: starEach [b, c] X.env) (h2 : starEach (b :: [c]) X.env = (false, eval b X.env) :: starEach [c] X.env) (h3 : starEach (c :: []) X.env = (false, eval c X.env) :: starEach [] X.env)
    (hw : swappedStores [.Tuple [.Name x px, .Name y py, .Name z pz] kt pt] (.Tuple [a, b, c] k2 pt2) X.env = pure (some [x, y, z])) (hs : swapsWithSole [.Tuple [.Name x px, .Name y py, .Name z pz] kt pt] (.Tuple [a, b, c] k2 pt2) pos.line X.env = pure false) :
    SS X w (.Assign [.Tuple [.Name x px, .Name y py, .Name z pz] kt pt] (.Tuple [a, b, c] k2 pt2) pos) (fPar3 i j l f g h) :=
  ⟨fun F hF => ps_weak (ps_par3 hc hN hi hj hl hij hil hjl hx hy hz (pa_cons (ha.r F hF) (pa_cons hb.ex (pa_cons hcc.ex pa_nil h3) h2) h1) hw hs) fun D σ H ⟨ρ, G, r, q⟩ => ⟨ρ, G, r, (Ps.val (N := NvR F σ) q).imp fun v H1 ⟨a, ρ1, G1, s1, r1, n1, q1⟩ => by
    obtain ⟨F1, eK, rf, kp⟩ := nv_keep r1 n1
    refine ⟨F1, eK.trans hF, ρ1, G1, rf, (Po.conv (N := NvR F1 σ) (fun ρ' G' H' s r' => (kp ρ' G' H' s r').1) q1).imp fun u H2 ⟨b, ρ2, G2, s2, r2, n2, q2⟩ => ?_⟩
    obtain ⟨F2, eK2, rf2, kp2⟩ := nv_keep r2 n2
    refine ⟨F2, eK2.trans (eK.trans hF), ρ2, G2, rf2, (Po.conv (N := NvR F2 σ) (fun ρ' G' H' s r' => (kp ρ' G' H' (s2.trans s) (kp2 ρ' G' H' s r').1).1) q2).imp fun t H3 ⟨c, ρ3, G3, s3, r3, n3, q3⟩ => ⟨v, u, t, rfl, ?_⟩⟩
    obtain ⟨y1, y2, y3⟩ := kp2 ρ3 G3 H3 s3 r3
    obtain ⟨y4, y5⟩ := y3 t c n3
    obtain ⟨z1, z2, z3⟩ := kp ρ3 G3 H3 (s2.trans s3) y1
    obtain ⟨w2, w3⟩ := z3 u b y2
    obtain ⟨v2, v3⟩ := z3 t c y4
    cases e : ((setS i a.sl ρ3).bind (setS j b.sl)).bind (setS l c.sl) with
    | none => rw [e] at q3; exact q3.elim
    | some ρ' =>
      rw [e] at q3
      obtain ⟨ρ4, e1, e2⟩ := Option.bind_eq_some_iff.mp e
      obtain ⟨ρ5, e0, e1⟩ := Option.bind_eq_some_iff.mp e1
      have e0 := setS_ok e0
      have e1 := setS_ok e1
      have e2 := setS_ok e2
      subst e0 e1 e2
      have p1 := z1.put (i := i) z2
      have nb := nv_set (i := i) z2 w2 w3
      have nc := nv_set (i := i) z2 v2 v3
      exact q3 _ G3 H3 (Same.refl _) ((p1.put (i := j) nb).put (i := l) (nv_set nb nc y5))⟩⟩

/-! x[k] = e of an own list -/
def fSetIx (i : Nat) (f k : Rho → R D) : Rho → Fl := fun ρ => (f ρ).fl fun x ρ1 => if hasV ρ1[i]? = true then (k ρ1).fl fun z ρ2 => match ρ2[i]?, z with
  | some (.own ds), .int z => (match ixN ds.length z with
    | some j => .nx (ρ2.set i (.own (ds.set j x)))
    | none => .bad)
  | _, _ => .bad else .bad
theorem ss_setIx {i : Nat} {x : Str} {kx e : Expr} {f k : Rho → R D} {px ps pos : Pos} (hN : X.N[i]? = some x) (hv : Vis X.env.scope x) (hd : (x == ("__debug__" : Str)) = false) (hcd : (x == ("__classdict__" : Str)) = false) (hk : SE X w kx k) (he : SE X w e f)
    (ha : ∀ v, assign (.Subscript (.Name x px) kx ps) X.env v = (do let ov ← holding [v] (eval (.Name x px) X.env); let iv ← holding [v, ov] (eval kx X.env); standAt ps; holding [v, ov, iv] (setItem ov iv v); release [v, ov, iv] []))
    (hs : swapsWithSole [.Subscript (.Name x px) kx ps] e pos.line X.env = pure false) (hw : swappedStores [.Subscript (.Name x px) kx ps] e X.env = pure none) (h1 : (assignEach [.Subscript (.Name x px) kx ps] X.env).map (·.2) = [assign (.Subscript (.Name x px) kx ps) X.env]) :
    SS X w (.Assign [.Subscript (.Name x px) kx ps] e pos) (fSetIx i f k) :=
  ⟨fun F hF => ps_weak (ps_asg (he.r F hF) (pg_sub (pe_var hN hv hd hcd) (hk.r F hF) set_list ha) hs hw h1) fun D σ H ⟨ρ, G, r, q⟩ => ⟨ρ, G, r, (Ps.val q).imp fun v H1 ⟨d, ρ1, G1, s1, r1, n1, q1⟩ => by
    by_cases hh : hasV ρ1[i]? = true
    · rw [if_pos hh] at q1
      obtain ⟨o, eo⟩ := hasV_ok r1 hh
      refine ⟨o, eo, ρ1, G1, r1, (Ps.val q1).imp fun u H2 ⟨z, ρ2, G2, s2, r2, n2, q2⟩ => ?_⟩
      cases e : ρ2[i]? with
      | none => rw [e] at q2; exact q2.elim
      | some s =>
        rw [e] at q2
        cases s with
        | own ds =>
          cases n2 with
          | int z =>
            have q2 : Ps F w D G2 (match ixN ds.length z with | some j => .nx (ρ2.set i (.own (ds.set j d))) | none => .bad) := q2
            obtain ⟨p, e1, e2, e3, ⟨us, hp, hd2⟩, _⟩ := own_so r2 e rfl
            rw [eo] at e1
            have e1 : o = .ref p := Option.some.inj (Option.some.inj e1)
            subst e1
            cases ej : ixN ds.length z with
            | none => rw [ej] at q2; exact q2.elim
            | some j =>
              rw [ej] at q2
              exact ⟨p, us, z, j, rfl, rfl, hp, by rw [hd2.length]; exact ej, q2 σ G2 _ (Same.refl _) (r2.write e rfl eo rfl ⟨_, upd_same, hd2.set (n1.mono s2) j⟩)⟩
          | _ => exact q2.elim
        | _ => exact q2.elim
    · rw [if_neg hh] at q1
      exact q1.elim⟩⟩

/-! x[k] op= e -/
def ipD : Operator → D → D → Option D
  | .Add, .int i, .int j => some (.int (i + j))
  | .Sub, .int i, .int j => some (.int (i - j))
  | .Mult, .int i, .int j => ift (smI i || smI j) (some (.int (i * j)))
  | _, _, _ => none
def IpOk (X : Cx) (o : Operator) : Prop := ∃ t : TIp, PIp X o t ∧ ∀ (K : PySem.W.Frag) (G H : Hp) (Q : VK) (u v : V) (x y z : D), Dq K G u x → Dq K G v y → ipD o x y = some z → (∀ r, Dq K G r z → Q r H) → t u v H Q
theorem ip_ok (o : Operator) : IpOk X o := by
  have nope : (∀ x y, ipD o x y = none) → IpOk X o := fun h => ⟨fun _ _ _ _ => False, fun _ _ _ _ _ _ _ _ _ _ _ _ q => q.elim, fun _ _ _ _ _ _ x y z _ _ e _ => by rw [h] at e; cases e⟩
  cases o with
  | Add =>
    refine ⟨_, ip_add, fun K G H Q u v x y z n1 n2 e q => ?_⟩
    cases n1 with
    | int i =>
      cases n2 with
      | int j =>
        have e := Option.some.inj e
        subst e
        exact ⟨i, j, rfl, rfl, q _ (.int _)⟩
      | _ => cases e
    | _ => cases n2 <;> cases e
  | Sub =>
    refine ⟨_, ip_sub, fun K G H Q u v x y z n1 n2 e q => ?_⟩
    cases n1 with
    | int i =>
      cases n2 with
      | int j =>
        have e := Option.some.inj e
        subst e
        exact ⟨i, j, rfl, rfl, q _ (.int _)⟩
      | _ => cases e
    | _ => cases n2 <;> cases e
  | Mult =>
    refine ⟨rI CMul fun i j => .int (i * j), iop_mul, fun K G H Q u v x y z n1 n2 e q => ?_⟩
    cases n1 with
    | int i =>
      cases n2 with
      | int j =>
        obtain ⟨c, e⟩ := ift_some e
        have e := Option.some.inj e
        subst e
        refine ⟨i, j, rfl, rfl, ?_, q _ (.int _)⟩
        cases ei : smI i with
        | true => exact .inl (smI_ok ei)
        | false =>
          rw [ei, Bool.false_or] at c
          exact .inr (smI_ok c)
      | _ => cases e
    | _ => cases n2 <;> cases e
  | _ => exact nope fun x y => by cases x <;> cases y <;> rfl
def rGetL (K : PySem.W.Frag) : V → V → Hp → VK → Prop := fun o i H Q => ∃ p xs k v, o = .ref p ∧ i = .int k ∧ SqL K H p xs ∧ 0 ≤ k ∧ atI xs k = some v ∧ Q v H
theorem get_list : PGet X (rGetL X.K) := by
  intro pins s σ H o i ov iv Q I ro ri h
  obtain ⟨p, xs, k, z, rfl, rfl, hq, h0, he, q⟩ := h
  cases ro
  obtain ⟨t, rfl⟩ := ri
  obtain ⟨its, r, pl, hz⟩ := I.list hq
  obtain ⟨j, h1, h2, h3, h4, h5⟩ := atI_get he
  obtain ⟨u, ew, ru⟩ := r.get h2
  have hl := r.length
  have hn := line63
  have hj : k.toNat = j := by
    rw [seqIndex_of h0 h5] at h1
    exact Option.some.inj h1
  exact wpAny_getItem_list pl.isList h0 (by omega) (by rw [hj]; simpa using ew) ⟨z, H, I, ru, q⟩
def fAugIx (o : Operator) (i : Nat) (k f : Rho → R D) : Rho → Fl := fun ρ => if hasV ρ[i]? = true then (k ρ).fl fun z ρ1 => match ρ1[i]?, z with
  | some (.own ds), .int z => (if 0 ≤ z then (match atI ds z with
    | some x => (f ρ1).fl fun y ρ2 => (match ipD o x y, ρ2[i]? with
      | some u, some (.own es) => (match ixN es.length z with
        | some j => .nx (ρ2.set i (.own (es.set j u)))
        | none => .bad)
      | _, _ => .bad)
    | none => .bad) else .bad)
  | _, _ => .bad else .bad
theorem ss_augIx {o : Operator} {i : Nat} {x : Str} {kx e : Expr} {f k : Rho → R D} {px ps pos : Pos} (hN : X.N[i]? = some x) (hv : Vis X.env.scope x) (hd : (x == ("__debug__" : Str)) = false) (hcd : (x == ("__classdict__" : Str)) = false) (hk : SE X w kx k) (he : SE X w e f)
    (ha : ∀ ov iv new, augStore kx ov iv new = (do holding [new, ov, iv] (setItem ov iv new); release [new, ov, iv] []; pure .next)) : SS X w (.AugAssign (.Subscript (.Name x px) kx ps) o e pos) (fAugIx o i k f) := by
  obtain ⟨t, ht, hq⟩ := ip_ok (X := X) o
  refine ⟨fun F hF => ps_weak (ps_augS (pe_var hN hv hd hcd) (hk.r F hF) get_list (he.r F hF) ht set_list ha) fun D σ H ⟨ρ, G, r, q⟩ => ?_⟩
  unfold fAugIx at q
  by_cases hh : hasV ρ[i]? = true
  · rw [if_pos hh] at q
    obtain ⟨ov, eo⟩ := hasV_ok r hh
    refine ⟨ov, eo, ρ, G, r, (Ps.val q).imp fun u H2 ⟨z, ρ1, G1, s1, r1, n1, q1⟩ => ?_⟩
    cases e : ρ1[i]? with
    | none => rw [e] at q1; exact q1.elim
    | some s =>
      rw [e] at q1
      cases s with
      | own ds =>
        cases n1 with
        | int z =>
          have q1 : Ps F w D G1 (if 0 ≤ z then (match atI ds z with
            | some x => (f ρ1).fl fun y ρ2 => (match ipD o x y, ρ2[i]? with
              | some u, some (.own es) => (match ixN es.length z with
                | some j => .nx (ρ2.set i (.own (es.set j u)))
                | none => .bad)
              | _, _ => .bad)
            | none => .bad) else .bad) := q1
          by_cases h0 : 0 ≤ z
          · rw [if_pos h0] at q1
            obtain ⟨p, e1, e2, e3, ⟨us, hp, hd2⟩, _⟩ := own_so r1 e rfl
            rw [eo] at e1
            have e1 : ov = .ref p := Option.some.inj (Option.some.inj e1)
            subst e1
            cases ea : atI ds z with
            | none => rw [ea] at q1; exact q1.elim
            | some x0 =>
              rw [ea] at q1
              obtain ⟨v0, ev, nv⟩ := atI_dq hd2 ea
              refine ⟨p, us, z, v0, rfl, rfl, SqL.of hp, h0, ev, ρ1, G1, r1, (Ps.val q1).imp fun y H3 ⟨dy, ρ2, G2, s2, r2, n2, q2⟩ => ?_⟩
              cases ei : ipD o x0 dy with
              | none => rw [ei] at q2; exact q2.elim
              | some du =>
                rw [ei] at q2
                refine hq F.K G2 H3 _ v0 y x0 dy du (nv.mono s2) n2 ei fun rr nr => ?_
                cases e5 : ρ2[i]? with
                | none => rw [e5] at q2; exact q2.elim
                | some s5 =>
                  rw [e5] at q2
                  cases s5 with
                  | own es =>
                    have q2 : Ps F w D G2 (match ixN es.length z with | some j => .nx (ρ2.set i (.own (es.set j du))) | none => .bad) := q2
                    obtain ⟨p', e6, e7, e8, ⟨ws, hp', hd3⟩, _⟩ := own_so r2 e5 rfl
                    rw [eo] at e6
                    cases e6
                    cases ej : ixN es.length z with
                    | none => rw [ej] at q2; exact q2.elim
                    | some j =>
                      rw [ej] at q2
                      exact ⟨p, ws, z, j, rfl, rfl, hp', by rw [hd3.length]; exact ej, q2 σ G2 _ (Same.refl _) (r2.write e5 rfl eo rfl ⟨_, upd_same, hd3.set nr j⟩)⟩
                  | _ => exact q2.elim
          · rw [if_neg h0] at q1
            exact q1.elim
        | _ => exact q1.elim
      | _ => exact q1.elim
  · rw [if_neg hh] at q
    exact q.elim

/-! x op= e -/
def fAug (o : Operator) (i : Nat) (f : Rho → R D) : Rho → Fl := fun ρ => match ρ[i]? with
  | some (.val d) => (f ρ).fl fun y ρ1 => (match ipD o d y with
    | some z => stIn i (.d z) ρ1
    | none => .bad)
  | _ => .bad
theorem ss_aug {o : Operator} {i : Nat} {x : Str} {e : Expr} {f : Rho → R D} {p pos : Pos} (hN : X.N.Nodup) (hi : X.N[i]? = some x) (hx : Loc X.env.scope x) (he : SE X w e f) (hf : X.fn x = true ∨ X.env.scope.names.lookup x = some .local) : SS X w (.AugAssign (.Name x p) o e pos) (fAug o i f) := by
  obtain ⟨t, ht, hq⟩ := ip_ok (X := X) o
  refine ⟨fun F hF => ps_weak (ps_aug hN hi hx (he.r F hF) ht hf) fun D σ H ⟨ρ, G, r, q⟩ => ?_⟩
  unfold fAug at q
  split at q
  · rename_i d ed
    obtain ⟨v, ev, n⟩ := r.sl i _ ed
    refine ⟨v, ev, ρ, G, r, (Ps.val q).imp fun y H1 ⟨dy, ρ1, G1, s1, r1, n1, q1⟩ => ?_⟩
    cases ei : ipD o d dy with
    | none => rw [ei] at q1; exact q1.elim
    | some dz =>
      rw [ei] at q1
      refine hq F.K G1 H1 _ v y d dy dz (n.mono s1) n1 ei fun rr nr => ?_
      have q1 : Ps F w D G1 (stIn i (.d dz) ρ1) := q1
      unfold stIn at q1
      cases e5 : setS i (Vl.d dz).sl ρ1 with
      | none => rw [e5] at q1; exact q1.elim
      | some ρ' =>
        rw [e5] at q1
        have e5 := setS_ok e5
        subst e5
        exact q1 _ G1 H1 (Same.refl _) (r1.store nr)
  · exact q.elim
end
end PF
end
section
namespace PF
open PySem PySem.Spec PyProof.Rows L2
section
variable {X : Cx} {w : Wi}
/-! x.append(e), x.extend(e) -/
def fApp (i : Nat) (f : Rho → R D) : Rho → Fl := fun ρ => if (ioOf ρ[i]?).isSome = true then (f ρ).fl fun x ρ1 => match ioOf ρ1[i]? with
  | some (ds, mk) => if ds.length < lim then .nx (ρ1.set i (mk (ds ++ [x]))) else .bad
  | none => .bad else .bad
def fExt (i : Nat) (f : Rho → R D) : Rho → Fl := fun ρ => if (ioOf ρ[i]?).isSome = true then (f ρ).fl fun x ρ1 => match ioOf ρ1[i]?, x with
  | some (ds, mk), .lst es => if ds.length + es.length ≤ lim then .nx (ρ1.set i (mk (ds ++ es))) else .bad
  | _, _ => .bad else .bad
theorem ioOf_so {F : Fx} {ρ : Rho} {σ : L2.St} {G H : Hp} {i : Nat} {ds : List D} {mk : List D → Sl} (r : Rel F ρ σ G H) (h : ioOf ρ[i]? = some (ds, mk)) : ∃ s p vs, ρ[i]? = some s ∧ s.mu = true ∧ σ[i]? = some (some (.ref p)) ∧ H p = some (.lst vs) ∧ Dqs F.K G vs ds ∧ (∀ l, (mk l).isIo = s.isIo) ∧ ∀ l G' H', (∃ us, H' p = some (.lst us) ∧ Dqs F.K G' us l) → Mo F.K G' H' p (mk l) := by
  cases e : ρ[i]? with
  | none => rw [e] at h; cases h
  | some s =>
    rw [e] at h
    cases s with
    | own es =>
      have h := Option.some.inj h
      cases h
      obtain ⟨p, e1, _, _, ⟨vs, hp, hd⟩, _⟩ := own_so r e rfl
      exact ⟨_, p, vs, rfl, rfl, e1, hp, hd, fun l => rfl, fun l G' H' m => m⟩
    | io es =>
      have h := Option.some.inj h
      cases h
      obtain ⟨p, e1, _, _, ⟨vs, hp, hd⟩, _⟩ := own_so r e rfl
      exact ⟨_, p, vs, rfl, rfl, e1, hp, hd, fun l => rfl, fun l G' H' m => m⟩
    | _ => cases h
theorem ioOf_some {o : Option Sl} (h : (ioOf o).isSome = true) : ∃ ds mk, ioOf o = some (ds, mk) := by
  cases e : ioOf o with
  | none => rw [e] at h; cases h
  | some p => exact ⟨p.1, p.2, rfl⟩
theorem ss_app {i : Nat} {x : Str} {e : Expr} {f : Rho → R D} {px ap cp pos : Pos} (hN : X.N[i]? = some x) (hv : Vis X.env.scope x) (hd : (x == ("__debug__" : Str)) = false) (hcd : (x == ("__classdict__" : Str)) = false) (he : SE X w e f) (hl : (ap.endLine == cp.line) = true) (hse : starEach (e :: []) X.env = (false, eval e X.env) :: starEach [] X.env) :
    SS X w (.Expr (.Call (.Attribute (.Name x px) "append" ap) [e] [] cp) pos) (fApp i f) :=
  ⟨fun F hF => ps_weak (ps_expr (pe_bm PySem.F.plainAttrs_list PySem.F.slot_list_append PySem.F.type_list_append mt_append (pe_var hN hv hd hcd) (pa_cons (he.r F hF) pa_nil hse) rfl (by rw [hse]; rfl) hl hse rfl)) fun D σ H ⟨ρ, G, r, q⟩ => by
    unfold fApp at q
    by_cases hh : (ioOf ρ[i]?).isSome = true
    · rw [if_pos hh] at q
      obtain ⟨ds0, mk0, e0⟩ := ioOf_some hh
      obtain ⟨s0, p, vs0, _, _, ev, hp0, _, _⟩ := ioOf_so r e0
      refine ⟨_, ev, .inl ⟨rfl, _, SqL.of hp0⟩, ρ, G, r, (Ps.val q).imp fun v H1 ⟨d, ρ1, G1, s1, r1, n1, q1⟩ => ?_⟩
      cases e1 : ioOf ρ1[i]? with
      | none => rw [e1] at q1; exact q1.elim
      | some pr =>
        obtain ⟨ds, mk⟩ := pr
        rw [e1] at q1
        have q1 : Ps F w D G1 (if ds.length < lim then .nx (ρ1.set i (mk (ds ++ [d]))) else .bad) := q1
        obtain ⟨s2, p2, vs, es, hm, ev2, hp, hds, hio, mkM⟩ := ioOf_so r1 e1
        rw [ev] at ev2
        cases ev2
        by_cases hlen : ds.length < lim
        · rw [if_pos hlen] at q1
          exact ⟨p, vs, v, rfl, rfl, hp, lim_lt (by rw [hds.length]; omega), q1 σ G1 _ (Same.refl _) (r1.write es hm ev (hio _) (mkM _ _ _ ⟨_, upd_same, hds.append (.cons n1 .nil)⟩))⟩
        · rw [if_neg hlen] at q1
          exact q1.elim
    · rw [if_neg hh] at q
      exact q.elim⟩
theorem ss_ext {i : Nat} {x : Str} {e : Expr} {f : Rho → R D} {px ap cp pos : Pos} (hN : X.N[i]? = some x) (hv : Vis X.env.scope x) (hd : (x == ("__debug__" : Str)) = false) (hcd : (x == ("__classdict__" : Str)) = false) (he : SE X w e f) (hl : (ap.endLine == cp.line) = true) (hse : starEach (e :: []) X.env = (false, eval e X.env) :: starEach [] X.env) :
    SS X w (.Expr (.Call (.Attribute (.Name x px) "extend" ap) [e] [] cp) pos) (fExt i f) :=
  ⟨fun F hF => ps_weak (ps_expr (pe_bm PySem.F.plainAttrs_list PySem.F.slot_list_extend PySem.F.type_list_extend mt_extend (pe_var hN hv hd hcd) (pa_cons (he.r F hF) pa_nil hse) rfl (by rw [hse]; rfl) hl hse rfl)) fun D σ H ⟨ρ, G, r, q⟩ => by
    unfold fExt at q
    by_cases hh : (ioOf ρ[i]?).isSome = true
    · rw [if_pos hh] at q
      obtain ⟨ds0, mk0, e0⟩ := ioOf_some hh
      obtain ⟨s0, p, vs0, _, _, ev, hp0, _, _⟩ := ioOf_so r e0
      refine ⟨_, ev, .inl ⟨rfl, _, SqL.of hp0⟩, ρ, G, r, (Ps.val q).imp fun v H1 ⟨d, ρ1, G1, s1, r1, n1, q1⟩ => ?_⟩
      cases e1 : ioOf ρ1[i]? with
      | none => rw [e1] at q1; exact q1.elim
      | some pr =>
        obtain ⟨ds, mk⟩ := pr
        rw [e1] at q1
        obtain ⟨s2, p2, vs, es, hm, ev2, hp, hds, hio, mkM⟩ := ioOf_so r1 e1
        rw [ev] at ev2
        cases ev2
        cases n1 with
        | @lst b ws es' h1 m1 =>
          have q1 : Ps F w D G1 (if ds.length + es'.length ≤ lim then .nx (ρ1.set i (mk (ds ++ es'))) else .bad) := q1
          by_cases hlen : ds.length + es'.length ≤ lim
          · rw [if_pos hlen] at q1
            exact ⟨p, b, vs, ws, rfl, rfl, hp, r1.gh _ _ h1, lim_le (by rw [hds.length, m1.length]; exact hlen), q1 σ G1 _ (Same.refl _) (r1.write es hm ev (hio _) (mkM _ _ _ ⟨_, upd_same, hds.append m1⟩))⟩
          · rw [if_neg hlen] at q1
            exact q1.elim
        | _ => exact q1.elim
    · rw [if_neg hh] at q
      exact q.elim⟩

/-! expression, return, if, raise -/
def fExpr (f : Rho → R Vl) : Rho → Fl := fun ρ => (f ρ).fl fun _ ρ1 => .nx ρ1
theorem ss_expr {e : Expr} {f : Rho → R Vl} {pos : Pos} (h : SV X w e f) (hs : swapsWith e none pos.line X.env = pure false) : SS X w (.Expr e pos) (fExpr f) :=
  ⟨fun F hF => ps_weak (ps_expr (h.r F hF) hs) fun D σ H ⟨ρ, G, r, q⟩ => ⟨ρ, G, r, (Ps.val q).imp fun v H1 ⟨a, ρ1, G1, s1, r1, n1, q1⟩ => q1 σ G1 H1 (Same.refl _) r1⟩⟩
def fRet (f : Rho → R D) : Rho → Fl := fun ρ => (f ρ).fl fun d ρ1 => .ret d ρ1
theorem ss_ret {e : Expr} {f : Rho → R D} {pos : Pos} (h : SE X w e f) : SS X w (.Return (some e) pos) (fRet f) :=
  ⟨fun F hF => ps_weak (ps_ret (h.r F hF)) fun D σ H ⟨ρ, G, r, q⟩ => ⟨ρ, G, r, (Ps.val q).imp fun v H1 ⟨a, ρ1, G1, s1, r1, n1, q1⟩ => q1 v σ G1 H1 (Same.refl _) r1 n1⟩⟩
def fIf (c : Rho → R Bool) (f g : Rho → Fl) : Rho → Fl := fun ρ => (c ρ).fl fun b ρ1 => match b with
  | true => f ρ1
  | false => g ρ1
theorem ss_if {c : Expr} {a b : List Stmt} {t : Rho → R Bool} {f g : Rho → Fl} {pos : Pos} (hc : ST X w c t) (ha : SSs X w a f) (hb : SSs X w b g) : SS X w (.If c a b pos) (fIf t f g) :=
  ⟨fun F hF => ps_weak (ps_if (hc.r F hF) (ha.r F hF) (hb.r F hF)) fun D σ H ⟨ρ, G, r, q⟩ => ⟨ρ, G, r, (Ps.test q).imp fun b H1 ⟨ρ1, G1, s1, r1, q1⟩ => by
    cases b with
    | true => rw [if_pos rfl]; exact ⟨ρ1, G1, r1, q1⟩
    | false => rw [if_neg Bool.false_ne_true]; exact ⟨ρ1, G1, r1, q1⟩⟩⟩
def fRaise (c : Nat) : Rho → Fl := fun ρ => .exc c ρ
theorem ss_raise {c : Nat} {e : Expr} {pos : Pos} (hc : X.calm = true) (tk : Takes X w.W) (h : PMk X e fun _ H Q => Q (.ref (w.ec c)) none H) : SS X w (.Raise (some e) none pos) (fRaise c) :=
  ⟨fun F hF => ps_weak (ps_raise hc tk h) fun D σ H ⟨ρ, G, r, q⟩ => q σ G H (Same.refl _) r⟩

/-! for -/
def forGo (t : Tg) (b : Rho → Fl) : List D → Rho → Fl
  | [], ρ => .nx ρ
  | d :: ds, ρ => match setTg t d ρ with
    | none => .bad
    | some ρ1 => (b ρ1).seq (forGo t b ds)
def fFor (it : Rho → R (List D)) (t : Tg) (b : Rho → Fl) : Rho → Fl := fun ρ => (it ρ).fl (forGo t b)
theorem ss_for {tg iter : Expr} {body : List Stmt} {it : Rho → R (List D)} {t : Tg} {b : Rho → Fl} {pos : Pos} (hp : PassesOwn (model X.prog X.w) X.A X.env X.xe) (hc : X.calm = true) (hi : SI X w tg iter it) (hg : SG X tg t) (hb : SSs X w body b)
    (hs : ∀ x, foldedSetIterable iter X.env x = pure x) : SS X w (.For tg iter body [] pos) (fFor it t b) := by
  refine ⟨fun F hF => ps_weak (ps_for hp hc (hi.r F hF) (hg.r F hF) (hb.r F hF) hs) fun D σ H ⟨ρ, G, r, q⟩ => ⟨ρ, G, r, ?_⟩⟩
  have q2 : Pi F w σ G (fun J H1 => ∃ ds ρ1 G1, Rel F ρ1 σ G1 H1 ∧ Wk F.K G1 ds J ∧ Ps F w D G1 (forGo t b ds ρ1)) (it ρ) := by
    revert q
    unfold fFor
    cases it ρ with
    | ok ds ρ1 => exact fun q J G1 H1 s1 r1 k1 => ⟨ds, ρ1, G1, r1, k1, Ps.mono s1 q⟩
    | exc c ρ1 => exact fun q G1 H1 s1 r1 => q σ G1 H1 s1 r1
    | bad => exact fun q => q
  have imp : ∀ {r : R (List PF.D)} {P P' : It → Hp → Prop}, (∀ J H, P J H → P' J H) → Pi F w σ G P r → Pi F w σ G P' r := by
    intro r P P' h
    cases r with
    | ok ds ρ1 => exact fun q J G1 H1 s1 r1 k1 => h _ _ (q J G1 H1 s1 r1 k1)
    | exc c ρ1 => exact fun q => q
    | bad => exact fun q => q
  refine imp (fun J H1 ⟨ds, ρ1, G1, r1, wk, q1⟩ => ?_) q2
  refine ⟨fun i m σ H2 => m = ds.length - i ∧ i ≤ ds.length ∧ ∃ ρ2 G2, Same G1 G2 ∧ Rel F ρ2 σ G2 H2 ∧ Ps F w D G2 (forGo t b (ds.drop i) ρ2), ⟨ds.length, rfl, Nat.zero_le _, ρ1, G1, Same.refl _, r1, q1⟩, ?_⟩
  rintro i m σ2 H2 ⟨rfl, hle, ρ2, G2, s2, r2, pl⟩
  obtain ⟨wstop, wgo⟩ := wk i G2 H2 s2 r2.gh
  by_cases hlt : i < ds.length
  · have ed : ds[i]? = some ds[i] := List.getElem?_eq_getElem hlt
    have edr : ds.drop i = ds[i] :: ds.drop (i + 1) := List.drop_eq_getElem_cons hlt
    rw [edr] at pl
    generalize ds[i] = d at *
    obtain ⟨go, yl⟩ := wgo d ed
    refine .inr ⟨go, fun σ' H' => ∃ ρ2 G2, Same G1 G2 ∧ Rel F ρ2 σ' G2 H' ∧ Ps F w D G2 (forGo t b (ds.drop (i + 1)) ρ2), fun σ' H' h => ⟨ds.length - (i + 1), by omega, rfl, hlt, h⟩, fun x H3 y3 => ?_⟩
    have y4 := yl x H3 y3
    obtain ⟨G3, s3, r3, dq3⟩ : ∃ G3, Same G2 G3 ∧ Rel F ρ2 σ2 G3 H3 ∧ Dq F.K G3 x d := by
      rcases y4 with ⟨e, dq⟩ | ⟨T, ws, ds', ex, hT, eH, ed', dqs⟩
      · subst e
        exact ⟨G2, Same.refl _, r2, dq⟩
      · subst ex eH ed'
        obtain ⟨s, r', n⟩ := nv_tup r2 hT dqs
        exact ⟨_, s, r', n⟩
    have pl : Ps F w D G3 (forGo t b (d :: ds.drop (i + 1)) ρ2) := pl.mono s3
    unfold forGo at pl
    cases est : setTg t d ρ2 with
    | none => rw [est] at pl; exact pl.elim
    | some ρ3 =>
      rw [est] at pl
      refine ⟨ρ2, G3, d, ρ3, r3, dq3, est, fun σ3 rσ _ _ => ⟨ρ3, G3, rσ, ?_⟩⟩
      have pl : Ps F w D G3 ((b ρ3).seq (forGo t b (ds.drop (i + 1)))) := pl
      revert pl
      cases b ρ3 with
      | nx ρ4 => exact fun pl σ' G4 H4 s4 r4 => ⟨ρ4, G4, s2.trans (s3.trans s4), r4, Ps.mono s4 pl⟩
      | ret d ρ4 => exact fun pl => pl
      | exc c ρ4 => exact fun pl => pl
      | bad => exact fun pl => pl
  · have e : i = ds.length := by omega
    subst e
    rw [List.drop_length] at pl
    exact .inl ⟨wstop (Nat.le_refl _), pl σ2 G2 H2 (Same.refl _) r2⟩

/-! while -/
def whGo (c : Rho → R Bool) (b : Rho → Fl) : Nat → Rho → Fl
  | 0, _ => .bad
  | n + 1, ρ => (c ρ).fl fun t ρ1 => match t with
    | true => (b ρ1).seq (whGo c b n)
    | false => .nx ρ1
theorem ss_while {c : Expr} {body : List Stmt} {t : Rho → R Bool} {b : Rho → Fl} {pos : Pos} (n : Nat) (hp : PassesOwn (model X.prog X.w) X.A X.env X.xe) (hc : ST X w c t) (hb : SSs X w body b) : SS X w (.While c body [] pos) (whGo t b n) := by
  refine ⟨fun F hF => ps_weak (ps_while hp (hc.r F hF) (hb.r F hF)) fun D σ H ⟨ρ, G, r, q⟩ => ?_⟩
  refine ⟨fun m σ H => ∃ ρ G, Rel F ρ σ G H ∧ Ps F w D G (whGo t b m ρ), ⟨n, ρ, G, r, q⟩, ?_⟩
  rintro m σ1 H1 ⟨ρ1, G1, r1, q1⟩
  cases m with
  | zero => exact q1.elim
  | succ m =>
    have q1 : Ps F w D G1 ((t ρ1).fl fun t' ρ1 => match t' with
      | true => (b ρ1).seq (whGo t b m)
      | false => .nx ρ1) := q1
    refine ⟨ρ1, G1, r1, (Ps.test q1).imp fun k H2 ⟨ρ2, G2, s2, r2, q2⟩ => ?_⟩
    cases k with
    | false =>
      rw [if_neg Bool.false_ne_true]
      exact q2 σ1 G2 H2 (Same.refl _) r2
    | true =>
      rw [if_pos rfl]
      refine ⟨fun σ' H' => ∃ ρ G, Rel F ρ σ' G H' ∧ Ps F w D G (whGo t b m ρ), fun σ' H' h => ⟨m, Nat.lt_succ_self _, h⟩, ρ2, G2, r2, ?_⟩
      have q2 : Ps F w D G2 ((b ρ2).seq (whGo t b m)) := q2
      revert q2
      cases b ρ2 with
      | nx ρ4 => exact fun pl σ' G4 H4 s4 r4 => ⟨ρ4, G4, r4, Ps.mono s4 pl⟩
      | ret d ρ4 => exact fun pl => pl
      | exc c ρ4 => exact fun pl => pl
      | bad => exact fun pl => pl
end
end PF
end
section
namespace PF
open PySem PySem.Spec PyProof.Rows L2

/-! the program's pieces, by places; toE gives the model's own trees back -/
inductive Tt where
  | n (i : Nat) (x : Str) (p : Pos)
  | t2 (i : Nat) (x : Str) (px : Pos) (j : Nat) (y : Str) (py : Pos) (k : Nat) (p : Pos)
def Tt.e : Tt → Expr
  | .n _ x p => .Name x p
  | .t2 _ x px _ y py k p => .Tuple [.Name x px, .Name y py] k p
def Tt.t : Tt → Tg
  | .n i _ _ => .n i
  | .t2 i _ _ j _ _ _ _ => .t2 i j
mutual
inductive E where
  | v (i : Nat) (x : Str) (p : Pos)
  | ki (i : Int) (k : Nat) (p : Pos)
  | kb (b : Bool) (k : Nat) (p : Pos)
  | kn (k : Nat) (p : Pos)
  | ks (x : Str) (k : Nat) (p : Pos)
  | g (j : Nat) (x : Str) (p : Pos)
  | bin (o : Operator) (a b : E) (p : Pos)
  | neg (a : E) (p : Pos)
  | cmp (o : CmpOp) (a b : E) (p : Pos)
  | chn (o o' : CmpOp) (a b c : E) (p : Pos)
  | bop (o : BoolOp) (a : E) (as : A) (p : Pos)
  | not (a : E) (p : Pos)
  | ite (c a b : E) (p : Pos)
  | tup (as : A) (k : Nat) (p : Pos)
  | lst (as : A) (p : Pos)
  | ix (a b : E) (p : Pos)
  | ixv (i : Nat) (x : Str) (px : Pos) (b : E) (p : Pos)
  | sl (a lo hi : E) (p2 p : Pos)
  | no
  | rev (a : E) (k : Nat) (p1 p2 p3 p : Pos)
  | call (f : Nat) (x : Str) (p : Pos) (a : E) (as : A) (pos : Pos)
  | callI (f : Nat) (x : Str) (p : Pos) (a : E) (i : Nat) (y : Str) (py : Pos) (as : A) (pos : Pos)
  | blt (b : Blt) (p : Pos) (a : E) (as : A) (pos : Pos)
  | isi (t : Ty4) (a : E) (p p2 pos : Pos)
  | lc (elt : E) (tg : Tt) (it : I) (c : E) (scope : Scope) (own : List (Str × Nat)) (p : Pos)
  | lenV (i : Nat) (x : Str) (px p pos : Pos)
  | call0 (f : Nat) (x : Str) (p pos : Pos)
inductive A where
  | nil
  | cons (e : E) (a : A)
inductive I where
  | e (a : E)
  | r1 (p : Pos) (a : E) (pos : Pos)
  | r2 (p : Pos) (a b : E) (pos : Pos)
  | r3 (p : Pos) (a b c : E) (pos : Pos)
  | en (p : Pos) (a : E) (pos : Pos)
  | zp (p : Pos) (a b : E) (pos : Pos)
end
def E.isNo : E → Bool
  | .no => true
  | _ => false
def optE (b : Bool) (e : Expr) : Option Expr := match b with
  | true => none
  | false => some e
def ifsE (b : Bool) (e : Expr) : List Expr := match b with
  | true => []
  | false => [e]
mutual
def toE : E → Expr
  | .v _ x p => .Name x p
  | .ki i k p => .Constant (.int i) k p
  | .kb b k p => .Constant (.bool b) k p
  | .kn k p => .Constant .none k p
  | .ks x k p => .Constant (.str x) k p
  | .g _ x p => .Name x p
  | .bin o a b p => .BinOp (toE a) o (toE b) p
  | .neg a p => .UnaryOp .USub (toE a) p
  | .cmp o a b p => .Compare (toE a) [o] [toE b] p
  | .chn o o' a b c p => .Compare (toE a) [o, o'] [toE b, toE c] p
  | .bop o a as p => .BoolOp o (toE a :: toA as) p
  | .not a p => .UnaryOp .Not (toE a) p
  | .ite c a b p => .IfExp (toE c) (toE a) (toE b) p
  | .tup as k p => .Tuple (toA as) k p
  | .lst as p => .List (toA as) p
  | .ix a b p => .Subscript (toE a) (toE b) p
  | .ixv _ x px b p => .Subscript (.Name x px) (toE b) p
  | .sl a lo hi p2 p => .Subscript (toE a) (.Slice (optE lo.isNo (toE lo)) (optE hi.isNo (toE hi)) none p2) p
  | .no => .Constant .none 0 ⟨0, 0, 0, 0⟩
  | .rev a k p1 p2 p3 p => .Subscript (toE a) (.Slice none none (some (.UnaryOp .USub (.Constant (.int 1) k p1) p2)) p3) p
  | .call _ x p a as pos => .Call (.Name x p) (toE a :: toA as) [] pos
  | .callI _ x p a _ y py as pos => .Call (.Name x p) (toE a :: .Name y py :: toA as) [] pos
  | .blt b p a as pos => .Call (.Name b.x p) (toE a :: toA as) [] pos
  | .isi t a p p2 pos => .Call (.Name "isinstance" p) [toE a, .Name t.x p2] [] pos
  | .lc elt tg it c scope _ p => .ListComp (toE elt) [⟨tg.e, toI it, ifsE c.isNo (toE c), 0⟩] scope p
  | .lenV _ x px p pos => .Call (.Name "len" p) [.Name x px] [] pos
  | .call0 _ x p pos => .Call (.Name x p) [] [] pos
def toA : A → List Expr
  | .nil => []
  | .cons e a => toE e :: toA a
def toI : I → Expr
  | .e a => toE a
  | .r1 p a pos => .Call (.Name "range" p) [toE a] [] pos
  | .r2 p a b pos => .Call (.Name "range" p) [toE a, toE b] [] pos
  | .r3 p a b c pos => .Call (.Name "range" p) [toE a, toE b, toE c] [] pos
  | .en p a pos => .Call (.Name "enumerate" p) [toE a] [] pos
  | .zp p a b pos => .Call (.Name "zip" p) [toE a, toE b] [] pos
end

/-! what they do -/
structure Fn where
  x : Str
  io : Bool
  n : Nat
  sem : List D → List D → RF
structure Ct where
  fns : List Fn
  gl : List (Str × D)
  ex : List Str
def Ct.semP (C : Ct) (f : Nat) : List D → RF := match C.fns[f]? with
  | some F => F.sem []
  | none => fun _ => .bad
def Ct.semI (C : Ct) (f : Nat) : List D → List D → RF := match C.fns[f]? with
  | some F => F.sem
  | none => fun _ _ => .bad
def Ct.ar (C : Ct) (f : Nat) : Nat := match C.fns[f]? with
  | some F => F.n
  | none => 0
def Ct.gv (C : Ct) (j : Nat) : D := match C.gl[j]? with
  | some p => p.2
  | none => .none
def sD (f : Rho → R Vl) : Rho → R D := fun ρ => asD (f ρ)
def rBad {α : Type} : Rho → R α := fun _ => .bad
def negD : D → Option Vl
  | .int i => some (.d (.int (-i)))
  | _ => none
def vNeg (f : Rho → R D) : Rho → R Vl := fun ρ => (f ρ).bind fun x ρ1 => match negD x with
  | some a => .ok a ρ1
  | none => .bad
def isoB (b : Bool) (f : Rho → R (Option Int)) : Rho → R (Option Int) := match b with
  | true => oNone
  | false => f
def condB (b : Bool) (f : Rho → R Bool) : Rho → R Bool := match b with
  | true => cYes
  | false => f
mutual
def evE (C : Ct) : E → Rho → R Vl
  | .v i _ _ => rVar i
  | .ki i _ _ => rCon (.int i)
  | .kb b _ _ => rCon (.bool b)
  | .kn _ _ => rCon .none
  | .ks x _ _ => rCon (.str x)
  | .g j _ _ => rCon (C.gv j)
  | .bin o a b _ => bin2 (opD o) (sD (evE C a)) (sD (evE C b))
  | .neg a _ => vNeg (sD (evE C a))
  | .cmp o a b _ => bin2 (cmpD o) (sD (evE C a)) (sD (evE C b))
  | .chn o o' a b c _ => chn (cmpD o) (cmpD o') (sD (evE C a)) (sD (evE C b)) (sD (evE C c))
  | .bop o a as _ => evV C o (evE C a) as
  | .not a _ => vNot (evE C a)
  | .ite c a b _ => vIte (evT C c) (evE C a) (evE C b)
  | .tup as _ _ => dTup (evA C as)
  | .lst as _ => dLst (evA C as)
  | .ix a b _ => bin2 ixD (sD (evE C a)) (sD (evE C b))
  | .ixv i _ _ b _ => gIxv i (sD (evE C b))
  | .sl a lo hi _ _ => vSl (sD (evE C a)) (isoB lo.isNo (oSome (sD (evE C lo)))) (isoB hi.isNo (oSome (sD (evE C hi))))
  | .no => rBad
  | .rev a _ _ _ _ _ => vRev (sD (evE C a))
  | .call f _ _ a as _ => callP (C.ar f) (C.semP f) (aCons (sD (evE C a)) (evA C as))
  | .callI f _ _ a i _ _ as _ => callI (C.ar f) (C.semI f) i (sD (evE C a)) (evA C as)
  | .blt b _ a as _ => vBlt (bltD b) (aCons (sD (evE C a)) (evA C as))
  | .isi t a _ _ _ => vIsi t (sD (evE C a))
  | .lc elt tg it c _ own _ => vLc (evI C it) tg.t (condB c.isNo (evT C c)) (sD (evE C elt)) (own.map (·.2))
  | .lenV i _ _ _ _ => vLenV i
  | .call0 f _ _ _ => callP (C.ar f) (C.semP f) aNil
def evT (C : Ct) : E → Rho → R Bool
  | .bop o a as _ => evB C o (evT C a) as
  | .not a _ => fNot (evT C a)
  | .ite _ _ _ _ => rBad
  | .no => rBad
  | .cmp o a b _ => fun ρ => tru (bin2 (cmpD o) (sD (evE C a)) (sD (evE C b)) ρ)
  | .chn o o' a b c _ => fun ρ => tru (chn (cmpD o) (cmpD o') (sD (evE C a)) (sD (evE C b)) (sD (evE C c)) ρ)
  | .v i _ _ => fun ρ => tru (rVar i ρ)
  | .call f _ _ a as _ => fun ρ => tru (callP (C.ar f) (C.semP f) (aCons (sD (evE C a)) (evA C as)) ρ)
  | .isi t a _ _ _ => fun ρ => tru (vIsi t (sD (evE C a)) ρ)
  | .blt b _ a as _ => fun ρ => tru (vBlt (bltD b) (aCons (sD (evE C a)) (evA C as)) ρ)
  | _ => rBad
def evB (C : Ct) (o : BoolOp) (f : Rho → R Bool) : A → Rho → R Bool
  | .nil => f
  | .cons e as => match o with
    | .And => fAnd f (evB C o (evT C e) as)
    | .Or => fOr f (evB C o (evT C e) as)
def evV (C : Ct) (o : BoolOp) (f : Rho → R Vl) : A → Rho → R Vl
  | .nil => f
  | .cons e as => match o with
    | .And => vAnd f (evV C o (evE C e) as)
    | .Or => vOr f (evV C o (evE C e) as)
def evA (C : Ct) : A → Rho → R (List D)
  | .nil => aNil
  | .cons e as => aCons (sD (evE C e)) (evA C as)
def evI (C : Ct) : I → Rho → R (List D)
  | .e a => iSeq (sD (evE C a))
  | .r1 _ a _ => iR1 (aCons (sD (evE C a)) aNil)
  | .r2 _ a b _ => iR2 (aCons (sD (evE C a)) (aCons (sD (evE C b)) aNil))
  | .r3 _ a b c _ => iR3 (aCons (sD (evE C a)) (aCons (sD (evE C b)) (aCons (sD (evE C c)) aNil)))
  | .en _ a _ => iEnu (aCons (sD (evE C a)) aNil)
  | .zp _ a b _ => iZipD (aCons (sD (evE C a)) (aCons (sD (evE C b)) aNil))
end

/-! when they are well formed, in a scope -/
def visB (sc : Scope) (x : Str) : Bool := match sc.names.lookup x with
  | some .local => true
  | some .cell => true
  | some .free => true
  | _ => false
def locB (sc : Scope) (x : Str) : Bool := match sc.names.lookup x with
  | some .local => true
  | _ => false
def celB (sc : Scope) (x : Str) : Bool := match sc.names.lookup x with
  | some .cell => true
  | _ => false
def gloB (sc : Scope) (x : Str) : Bool := match sc.names.lookup x with
  | some .globalImplicit => true
  | _ => false
def okX (x : Str) : Bool := !(x == ("__debug__" : Str)) && !(x == ("__classdict__" : Str))
/-- the name x stands at i, and may be read -/
def nmB (N : List Str) (sc : Scope) (i : Nat) (x : Str) : Bool := decide (N[i]? = some x) && visB sc x && okX x
/-- .. may be stored to (fl: in a def's own body) -/
def stX (N : List Str) (sc : Scope) (fl : Bool) (i : Nat) (x : Str) : Bool := decide (N[i]? = some x) && (locB sc x || (fl && celB sc x))
def wfT (N : List Str) (sc : Scope) (fl : Bool) : Tt → Bool
  | .n i x _ => stX N sc fl i x
  | .t2 i x _ j y _ _ _ => stX N sc fl i x && stX N sc fl j y
def tgIn (t : Tg) (own : List (Str × Nat)) : Bool := t.sl.all fun k => decide (k ∈ own.map (·.2))
def fnB (C : Ct) (f : Nat) (x : Str) (io : Bool) : Bool := match C.fns[f]? with
  | some F => decide (F.x = x) && (F.io == io)
  | none => false
def glB (C : Ct) (j : Nat) (x : Str) : Bool := match C.gl[j]? with
  | some p => decide (p.1 = x)
  | none => false
/-- the tuple's items are unpacked by a pair alone -/
def pairB (it : I) (t : Tt) : Bool := match it, t with
  | .en _ _ _, .n _ _ _ => false
  | .zp _ _ _ _, .n _ _ _ => false
  | _, _ => true
mutual
def wfE (C : Ct) (N : List Str) (sc : Scope) : E → Bool
  | .v i x _ => nmB N sc i x
  | .ki _ _ _ => true
  | .kb _ _ _ => true
  | .kn _ _ => true
  | .ks _ _ _ => true
  | .g j x _ => glB C j x && gloB sc x && okX x
  | .bin _ a b _ => wfE C N sc a && wfE C N sc b
  | .neg a _ => wfE C N sc a
  | .cmp _ a b _ => wfE C N sc a && wfE C N sc b
  | .chn _ _ a b c _ => wfE C N sc a && (wfE C N sc b && wfE C N sc c)
  | .bop _ a as _ => wfE C N sc a && wfA C N sc as
  | .not a _ => wfE C N sc a
  | .ite c a b _ => wfE C N sc c && (wfE C N sc a && wfE C N sc b)
  | .tup as _ _ => wfA C N sc as
  | .lst as _ => wfA C N sc as
  | .ix a b _ => wfE C N sc a && wfE C N sc b
  | .ixv i x _ b _ => nmB N sc i x && wfE C N sc b
  | .sl a lo hi _ _ => wfE C N sc a && ((lo.isNo || wfE C N sc lo) && (hi.isNo || wfE C N sc hi))
  | .no => false
  | .rev a _ _ _ _ _ => wfE C N sc a
  | .call f x _ a as _ => fnB C f x false && (gloB sc x && (okX x && (wfE C N sc a && wfA C N sc as)))
  | .callI f x _ a i y _ as _ => fnB C f x true && (gloB sc x && (okX x && (nmB N sc i y && (wfE C N sc a && wfA C N sc as))))
  | .blt b _ a as _ => gloB sc b.x && (wfE C N sc a && wfA C N sc as)
  | .isi t a _ _ _ => gloB sc "isinstance" && (gloB sc t.x && wfE C N sc a)
  | .lc elt tg it c scope own _ => wfI C N sc it && (pairB it tg && blkC N sc scope own && (wfT N (relS scope sc) false tg && (tgIn tg.t own && ((c.isNo || wfE C N (relS scope sc) c) && wfE C N (relS scope sc) elt))))
  | .lenV i x _ _ _ => gloB sc "len" && nmB N sc i x
  | .call0 f x _ _ => fnB C f x false && (gloB sc x && okX x)
def wfA (C : Ct) (N : List Str) (sc : Scope) : A → Bool
  | .nil => true
  | .cons e as => wfE C N sc e && wfA C N sc as
def wfI (C : Ct) (N : List Str) (sc : Scope) : I → Bool
  | .e a => wfE C N sc a
  | .r1 _ a _ => gloB sc "range" && wfE C N sc a
  | .r2 _ a b _ => gloB sc "range" && (wfE C N sc a && wfE C N sc b)
  | .r3 _ a b c _ => gloB sc "range" && (wfE C N sc a && (wfE C N sc b && wfE C N sc c))
  | .en _ a _ => gloB sc "enumerate" && wfE C N sc a
  | .zp _ a b _ => gloB sc "zip" && (wfE C N sc a && wfE C N sc b)
end
end PF
end
section
namespace PF
open PySem PySem.Spec PyProof.Rows L2

def bltNames : List Str := ["len", "all", "max", "min", "tuple", "list", "sorted", "str", "int", "bool", "isinstance", "range", "enumerate", "zip"]
/-- a def of the table stands where its name says, and does what the table says -/
def FnGood (X : Cx) (w : Wi) (F : Fn) : Prop := ∃ k f fd ps, X.mg F.x = some (.ref f) ∧ PySem.W.keepIn X.K (.ref f) = true ∧ L2.Binds X.K fd ps [] ∧ Room k X.A ∧
  (F.io = false → FnOk X.prog X.w X.K X.mg X.base (CX X.prog X.w) k f fd ps (spP X.K w.ec F.n (F.sem []))) ∧ (F.io = true → FnOk X.prog X.w X.K X.mg X.base (CX X.prog X.w) k f fd ps (spI X.K F.n F.sem))
/-- the class of the c-th exception -/
def ExGood (X : Cx) (w : Wi) (c : Nat) (x : Str) : Prop := X.mg x = some (.ref (w.ec c)) ∧ PySem.W.excIn X.K (w.ec c) [.type "ValueError", .type "Exception", .type "BaseException", .type "object"] "ValueError.__new__" = true ∧ PySem.W.keepIn X.K (.ref (w.ec c)) = true ∧
  PySem.W.subIn X.K (.ref (w.ec c)) (.type "BaseException") = some true ∧ PySem.W.typeIn X.K (.ref (w.ec c)) = some (.type "type")
structure Ox (C : Ct) (N : List Str) (sc : Scope) (fl : Bool) (w : Wi) (X : Cx) : Prop where
  hN : X.N = N
  nd : X.N.Nodup
  hs : X.env.scope = sc
  calm : X.calm = true
  hu : X.A.units + 65 < cLine
  tk : Takes X w.W
  gl : ∀ (j : Nat) (x : Str) (d : D), C.gl[j]? = some (x, d) → ∃ v u, X.mg x = some u ∧ RelV v u ∧ ∀ G, Dq X.K G v d
  bl : ∀ x ∈ bltNames, X.mg x = none
  fn : ∀ F ∈ C.fns, FnGood X w F
  ex : ∀ (c : Nat) (x : Str), C.ex[c]? = some x → x ≠ ("" : Str) → ExGood X w c x
  fnT : fl = true → ∀ x, X.fn x = true
section
variable {C : Ct} {N : List Str} {sc : Scope} {fl : Bool} {w : Wi} {X : Cx}
theorem Ox.blk (o : Ox C N sc fl w X) (s : Shared) (H : Hp) (scope : Scope) (c : Addr) (cl : List (Str × Addr)) (fp : List Addr) : Ox C N (relS scope sc) false w.no (X.blk s H scope (compEnvC scope cl c X.env) fp) where
  hN := o.hN
  nd := o.nd
  hs := by
    show relabel scope X.env = relS scope sc
    rw [← o.hs]
    rfl
  calm := o.calm
  hu := o.hu
  tk := takes0
  gl := o.gl
  bl := o.bl
  fn := o.fn
  ex := o.ex
  fnT := fun h => by cases h
theorem vis_ok (o : Ox C N sc fl w X) {x : Str} (h : visB sc x = true) : Vis X.env.scope x := by
  rw [o.hs]
  unfold visB at h
  unfold Vis
  split at h
  · exact .inl (by assumption)
  · exact .inr (.inl (by assumption))
  · exact .inr (.inr (by assumption))
  · cases h
theorem glo_ok' (o : Ox C N sc fl w X) {x : Str} (h : gloB sc x = true) : Gl X x := by
  show X.env.scope.names.lookup x = some .globalImplicit
  rw [o.hs]
  unfold gloB at h
  split at h
  · assumption
  · cases h
theorem okX_ok {x : Str} (h : okX x = true) : (x == ("__debug__" : Str)) = false ∧ (x == ("__classdict__" : Str)) = false := by
  obtain ⟨h1, h2⟩ := and2 h
  exact ⟨by simpa using h1, by simpa using h2⟩
theorem nm_ok (o : Ox C N sc fl w X) {i : Nat} {x : Str} (h : nmB N sc i x = true) : X.N[i]? = some x ∧ Vis X.env.scope x ∧ (x == ("__debug__" : Str)) = false ∧ (x == ("__classdict__" : Str)) = false := by
  obtain ⟨h1, h2⟩ := and2 h
  obtain ⟨h1, h3⟩ := and2 h1
  obtain ⟨h4, h5⟩ := okX_ok h2
  exact ⟨by rw [o.hN]; exact of_decide_eq_true h1, vis_ok o h3, h4, h5⟩
theorem st_ok (o : Ox C N sc fl w X) {i : Nat} {x : Str} (h : stX N sc fl i x = true) : X.N[i]? = some x ∧ Loc X.env.scope x ∧ (X.fn x = true ∨ X.env.scope.names.lookup x = some .local) := by
  obtain ⟨h1, h2⟩ := and2 h
  refine ⟨by rw [o.hN]; exact of_decide_eq_true h1, ?_⟩
  rw [o.hs]
  cases e : locB sc x with
  | true =>
    have e : sc.names.lookup x = some .local := by
      unfold locB at e
      split at e
      · assumption
      · cases e
    exact ⟨.inl e, .inr e⟩
  | false =>
    rw [e, Bool.false_or] at h2
    obtain ⟨f1, f2⟩ := and2 h2
    have e2 : sc.names.lookup x = some .cell := by
      unfold celB at f2
      split at f2
      · assumption
      · cases f2
    exact ⟨.inr e2, .inl (o.fnT f1 x)⟩
theorem sg_ok (o : Ox C N sc fl w X) {t : Tt} (h : wfT N sc fl t = true) : SG X t.e t.t := by
  cases t with
  | n i x p =>
    obtain ⟨h1, h2, h3⟩ := st_ok o h
    exact sg_n o.nd h1 h2 h3
  | t2 i x px j y py k p =>
    obtain ⟨a, b⟩ := and2 h
    obtain ⟨h1, h2, h3⟩ := st_ok o a
    obtain ⟨g1, g2, g3⟩ := st_ok o b
    exact sg_t2 o.calm o.nd h1 h2 h3 g1 g2 g3
/-- none of them is starred, a slice, a set -/
theorem nost (e : E) (es : List Expr) (env : Env) : starEach (toE e :: es) env = (false, eval (toE e) env) :: starEach es env := by
  cases e <;> rfl
theorem nosl (e : E) : PlainIx (toE e) := by
  cases e <;> exact fun _ _ => rfl
theorem noset (e : E) (env : Env) (x : Value) : foldedSetIterable (toE e) env x = pure x := by
  cases e <;> rfl
theorem nosetI (it : I) (env : Env) (x : Value) : foldedSetIterable (toI it) env x = pure x := by
  cases it with
  | e a => exact noset a env x
  | _ => rfl
theorem nomk (o : CmpOp) (e : E) : behindInMarks o (toE e) = false := by
  cases e <;> rfl
theorem nolast (o o' : CmpOp) (b c : E) : lastMarks [o, o'] [toE b, toE c] = false := nomk o' c
theorem nosA (env : Env) (pos : Pos) : ∀ as : A, (backTo pos (starEach (toA as) env)).any (·.1) = false
  | .nil => rfl
  | .cons e as => by
    show (backTo pos (starEach (toE e :: toA as) env)).any (·.1) = false
    rw [nost]
    exact nosA env pos as
theorem nosA2 (env : Env) (pos : Pos) (y : Str) (py : Pos) (as : A) : (backTo pos (starEach (.Name y py :: toA as) env)).any (·.1) = false := nosA env pos as
theorem fnB_ok {f : Nat} {x : Str} {io : Bool} (h : fnB C f x io = true) : ∃ F, C.fns[f]? = some F ∧ F.x = x ∧ F.io = io := by
  unfold fnB at h
  split at h
  · rename_i F e
    obtain ⟨h1, h2⟩ := and2 h
    exact ⟨F, e, of_decide_eq_true h1, by simpa using h2⟩
  · cases h
theorem glB_ok {j : Nat} {x : Str} (h : glB C j x = true) : C.gl[j]? = some (x, C.gv j) := by
  unfold glB at h
  unfold Ct.gv
  split at h
  · rename_i p e
    rw [e]
    have h := of_decide_eq_true h
    rw [← h]
  · cases h
theorem ST.bad {e : Expr} : ST X w e rBad := ⟨fun F hF => ⟨fun pins s σ H Q I ⟨ρ, G, r, q⟩ => q.elim⟩⟩
theorem sv_neg {a : Expr} {f : Rho → R D} {pos : Pos} (h : SE X w a f) : SV X w (.UnaryOp .USub a pos) (vNeg f) := ⟨fun F hF => pe_weak (pe_un un_neg (h.r F hF)) fun σ H Q ⟨ρ, G, r, q⟩ => ⟨ρ, G, r, (Po.bind q).imp fun v H1 ⟨x, ρ1, G1, s1, r1, n1, q1⟩ => by
  cases n1 with
  | int i => exact ⟨i, rfl, q1 _ G1 H1 (Same.refl _) r1 (.int _)⟩
  | _ => exact q1.elim⟩⟩
theorem bl_mem (b : Blt) : b.x ∈ bltNames := by cases b <;> decide
theorem ty_mem (t : Ty4) : t.x ∈ bltNames := by cases t <;> decide
theorem isoB_ok (o : Ox C N sc fl w X) {e : E} {f : Rho → R D} (h : e.isNo = false → SE X w (toE e) f) : SO X w (optE e.isNo (toE e)) (isoB e.isNo (oSome f)) := by
  cases q : e.isNo with
  | true => exact so_none
  | false => exact so_some (h q)
theorem or_no {a b : Bool} (h : (a || b) = true) (e : a = false) : b = true := by
  rw [e, Bool.false_or] at h
  exact h

/-- what is shown of each piece -/
abbrev OkE (X : Cx) (w : Wi) (C : Ct) (e : E) : Prop := SV X w (toE e) (evE C e) ∧ ST X w (toE e) (evT C e)
theorem SV.sD {e : Expr} {f : Rho → R Vl} (h : SV X w e f) : SE X w e (PF.sD f) := h.se
mutual
theorem sndE (C : Ct) (N : List Str) : ∀ (e : E) (sc : Scope) (fl : Bool) (w : Wi) (X : Cx), Ox C N sc fl w X → wfE C N sc e = true → OkE X w C e
  | .v i x p, sc, fl, w, X, o, h => by
    obtain ⟨h1, h2, h3, h4⟩ := nm_ok o h
    exact ⟨sv_var h1 h2 h3 h4, st_of (sv_var h1 h2 h3 h4) fun _ => rfl⟩
  | .ki i k p, sc, fl, w, X, o, h => ⟨sv_con pe_int fun G => .int i, ST.bad⟩
  | .kb b k p, sc, fl, w, X, o, h => ⟨sv_con pe_bl fun G => .bl b, ST.bad⟩
  | .kn k p, sc, fl, w, X, o, h => ⟨sv_con pe_non fun G => .non, ST.bad⟩
  | .ks x k p, sc, fl, w, X, o, h => ⟨sv_con pe_str fun G => .str x, ST.bad⟩
  | .g j x p, sc, fl, w, X, o, h => by
    obtain ⟨h1, h2⟩ := and2 h
    obtain ⟨h1, h3⟩ := and2 h1
    obtain ⟨v, u, hm, r, n⟩ := o.gl j x _ (glB_ok h1)
    exact ⟨sv_con (pe_glob (glo_ok' o h3) hm r (okX_ok h2).1) n, ST.bad⟩
  | .bin op a b p, sc, fl, w, X, o, h => by
    obtain ⟨h1, h2⟩ := and2 h
    exact ⟨sv_bin (opd op) (sndE C N a sc fl w X o h1).1.sD (sndE C N b sc fl w X o h2).1.sD, ST.bad⟩
  | .neg a p, sc, fl, w, X, o, h => ⟨sv_neg (sndE C N a sc fl w X o h).1.sD, ST.bad⟩
  | .cmp op a b p, sc, fl, w, X, o, h => by
    obtain ⟨h1, h2⟩ := and2 h
    have ha := (sndE C N a sc fl w X o h1).1.sD
    have hb := (sndE C N b sc fl w X o h2).1.sD
    exact ⟨sv_cmp (cmd o.hu op) ha hb (nomk op b), st_cmp (cmd o.hu op) ha hb (nomk op b)⟩
  | .chn op op' a b c p, sc, fl, w, X, o, h => by
    obtain ⟨h1, h2⟩ := and2 h
    obtain ⟨h2, h3⟩ := and2 h2
    have ha := (sndE C N a sc fl w X o h1).1.sD
    have hb := (sndE C N b sc fl w X o h2).1.sD
    have hc := (sndE C N c sc fl w X o h3).1.sD
    exact ⟨sv_chain (cmd o.hu op) (cmd o.hu op') ha hb hc (nolast _ _ b c), st_chain (cmd o.hu op) (cmd o.hu op') ha hb hc (nolast _ _ b c)⟩
  | .bop op a as p, sc, fl, w, X, o, h => by
    obtain ⟨h1, h2⟩ := and2 h
    have ha := sndE C N a sc fl w X o h1
    exact ⟨sndV C N as op a (evE C a) sc fl w X p o h2 ha.1, (sndB C N as op a (evT C a) sc fl w X p o h2 ha.2).st⟩
  | .not a p, sc, fl, w, X, o, h => by
    have ha := sndE C N a sc fl w X o h
    exact ⟨sv_not ha.1, st_not ha.2⟩
  | .ite c a b p, sc, fl, w, X, o, h => by
    obtain ⟨h1, h2⟩ := and2 h
    obtain ⟨h2, h3⟩ := and2 h2
    exact ⟨sv_ite (sndE C N c sc fl w X o h1).2 (sndE C N a sc fl w X o h2).1 (sndE C N b sc fl w X o h3).1, ST.bad⟩
  | .tup as k p, sc, fl, w, X, o, h => ⟨sv_tup (sndA C N as sc fl w X o h), ST.bad⟩
  | .lst as p, sc, fl, w, X, o, h => ⟨sv_lst (sndA C N as sc fl w X o h), ST.bad⟩
  | .ix a b p, sc, fl, w, X, o, h => by
    obtain ⟨h1, h2⟩ := and2 h
    exact ⟨sv_ix (sndE C N a sc fl w X o h1).1.sD (sndE C N b sc fl w X o h2).1.sD (nosl b), ST.bad⟩
  | .ixv i x px b p, sc, fl, w, X, o, h => by
    obtain ⟨h1, h2⟩ := and2 h
    obtain ⟨g1, g2, g3, g4⟩ := nm_ok o h1
    exact ⟨sv_ixv g1 g2 g3 g4 (sndE C N b sc fl w X o h2).1.sD (nosl b), ST.bad⟩
  | .sl a lo hi p2 p, sc, fl, w, X, o, h => by
    obtain ⟨h1, h2⟩ := and2 h
    obtain ⟨h2, h3⟩ := and2 h2
    exact ⟨sv_slice (sndE C N a sc fl w X o h1).1.sD (isoB_ok o fun q => (sndE C N lo sc fl w X o (or_no h2 q)).1.sD) (isoB_ok o fun q => (sndE C N hi sc fl w X o (or_no h3 q)).1.sD), ST.bad⟩
  | .no, sc, fl, w, X, o, h => by cases h
  | .rev a k p1 p2 p3 p, sc, fl, w, X, o, h => ⟨sv_rev (sndE C N a sc fl w X o h).1.sD, ST.bad⟩
  | .call f x p a as pos, sc, fl, w, X, o, h => by
    obtain ⟨h1, h⟩ := and2 h
    obtain ⟨h2, h⟩ := and2 h
    obtain ⟨h3, h⟩ := and2 h
    obtain ⟨h4, h5⟩ := and2 h
    obtain ⟨F, eF, rfl, io⟩ := fnB_ok h1
    obtain ⟨k, fa, fd, ps, g1, g2, g3, g4, g5, _⟩ := o.fn F (List.mem_of_getElem? eF)
    have s := sv_call (p := p) (pos := pos) (g5 io) g4 (glo_ok' o h2) g1 g2 g3 o.tk (sa_cons (sndE C N a sc fl w X o h4).1.sD (sndA C N as sc fl w X o h5) (nost a _ _)) (okX_ok h3).1 (nost a _ _) (nosA _ _ as)
    have e1 : C.ar f = F.n := by unfold Ct.ar; rw [eF]
    have e2 : C.semP f = F.sem [] := by unfold Ct.semP; rw [eF]
    rw [← e1, ← e2] at s
    exact ⟨s, st_of s fun _ => rfl⟩
  | .lenV i x px p pos, sc, fl, w, X, o, h => by
    obtain ⟨h1, h2⟩ := and2 h
    obtain ⟨n1, n2, n3, n4⟩ := nm_ok o h2
    have s := sv_lenV (w := w) (i := i) (x := x) (p := p) (px := px) (pos := pos) (glo_ok' o h1) (o.bl _ (by decide)) n1 n2 n3 n4
    exact ⟨s, ST.bad⟩
  | .call0 f x p pos, sc, fl, w, X, o, h => by
    obtain ⟨h1, h⟩ := and2 h
    obtain ⟨h2, h3⟩ := and2 h
    obtain ⟨F, eF, rfl, io⟩ := fnB_ok h1
    obtain ⟨k, fa, fd, ps, g1, g2, g3, g4, g5, _⟩ := o.fn F (List.mem_of_getElem? eF)
    have s := sv_call0 (p := p) (pos := pos) (g5 io) g4 (glo_ok' o h2) g1 g2 g3 o.tk (okX_ok h3).1
    have e1 : C.ar f = F.n := by unfold Ct.ar; rw [eF]
    have e2 : C.semP f = F.sem [] := by unfold Ct.semP; rw [eF]
    rw [← e1, ← e2] at s
    exact ⟨s, ST.bad⟩
  | .callI f x p a i y py as pos, sc, fl, w, X, o, h => by
    obtain ⟨h1, h⟩ := and2 h
    obtain ⟨h2, h⟩ := and2 h
    obtain ⟨h3, h⟩ := and2 h
    obtain ⟨h6, h⟩ := and2 h
    obtain ⟨h4, h5⟩ := and2 h
    obtain ⟨F, eF, rfl, io⟩ := fnB_ok h1
    obtain ⟨k, fa, fd, ps, g1, g2, g3, g4, _, g5⟩ := o.fn F (List.mem_of_getElem? eF)
    obtain ⟨n1, n2, n3, n4⟩ := nm_ok o h6
    have s := sv_callI (p := p) (py := py) (pos := pos) (g5 io) g4 (glo_ok' o h2) g1 g2 g3 o.tk (sndE C N a sc fl w X o h4).1.sD n1 n2 n3 n4 (sndA C N as sc fl w X o h5) (okX_ok h3).1 (nost a _ _) (nosA2 _ _ _ _ as)
    have e1 : C.ar f = F.n := by unfold Ct.ar; rw [eF]
    have e2 : C.semI f = F.sem := by unfold Ct.semI; rw [eF]
    rw [← e1, ← e2] at s
    exact ⟨s, ST.bad⟩
  | .blt b p a as pos, sc, fl, w, X, o, h => by
    obtain ⟨h1, h⟩ := and2 h
    obtain ⟨h4, h5⟩ := and2 h
    have s := sv_blt (b := b) (p := p) (pos := pos) o.calm (glo_ok' o h1) (o.bl _ (bl_mem b)) (sa_cons (sndE C N a sc fl w X o h4).1.sD (sndA C N as sc fl w X o h5) (nost a _ _)) (nost a _ _) (nosA _ _ as)
    exact ⟨s, st_of s fun _ => rfl⟩
  | .isi t a p p2 pos, sc, fl, w, X, o, h => by
    obtain ⟨h1, h⟩ := and2 h
    obtain ⟨h2, h3⟩ := and2 h
    have s := sv_isi (t := t) (p := p) (p2 := p2) (pos := pos) (glo_ok' o h1) (o.bl _ (by decide)) (glo_ok' o h2) (o.bl _ (ty_mem t)) (sndE C N a sc fl w X o h3).1.sD (nost a _ _)
    exact ⟨s, st_of s fun _ => rfl⟩
  | .lc elt tg it c scope own p, sc, fl, w, X, o, h => by
    obtain ⟨h1, h⟩ := and2 h
    obtain ⟨hb, h⟩ := and2 h
    obtain ⟨hp, hb⟩ := and2 hb
    obtain ⟨ht, h⟩ := and2 h
    obtain ⟨hi, h⟩ := and2 h
    obtain ⟨hc, he⟩ := and2 h
    refine ⟨sv_lc o.calm o.nd (sndI C N it tg sc fl w X o hp h1) (by rw [o.hN, o.hs]; exact blkOk_by hb) (fun s H c' cl fp => sg_ok (o.blk s H scope c' cl fp) ht) (fun s H c' cl fp => ?_)
      (fun s H c' cl fp => (sndE C N elt _ false w.no _ (o.blk s H scope c' cl fp) he).1.sD) (nosetI it _) (fun k hk => ?_), ST.bad⟩
    · cases q : c.isNo with
      | true => exact sc_nil
      | false => exact sc_one (sndE C N c _ false w.no _ (o.blk s H scope c' cl fp) (or_no hc q)).2
    · exact of_decide_eq_true (List.all_eq_true.mp hi k hk)
theorem sndB (C : Ct) (N : List Str) : ∀ (as : A) (op : BoolOp) (a : E) (f : Rho → R Bool) (sc : Scope) (fl : Bool) (w : Wi) (X : Cx) (p : Pos), Ox C N sc fl w X → wfA C N sc as = true → ST X w (toE a) f → SW X w (.BoolOp op (toE a :: toA as) p) (evB C op f as)
  | .nil, op, a, f, sc, fl, w, X, p, o, h, ha => by
    cases op with
    | And => exact sw_and1 ha
    | Or => exact sw_or1 ha
  | .cons e as, op, a, f, sc, fl, w, X, p, o, h, ha => by
    obtain ⟨h1, h2⟩ := and2 h
    have hr := sndB C N as op e (evT C e) sc fl w X p o h2 (sndE C N e sc fl w X o h1).2
    cases op with
    | And => exact sw_and ha hr
    | Or => exact sw_or ha hr
theorem sndV (C : Ct) (N : List Str) : ∀ (as : A) (op : BoolOp) (a : E) (f : Rho → R Vl) (sc : Scope) (fl : Bool) (w : Wi) (X : Cx) (p : Pos), Ox C N sc fl w X → wfA C N sc as = true → SV X w (toE a) f → SV X w (.BoolOp op (toE a :: toA as) p) (evV C op f as)
  | .nil, op, a, f, sc, fl, w, X, p, o, h, ha => sv_one ha
  | .cons e as, op, a, f, sc, fl, w, X, p, o, h, ha => by
    obtain ⟨h1, h2⟩ := and2 h
    have hr := sndV C N as op e (evE C e) sc fl w X p o h2 (sndE C N e sc fl w X o h1).1
    cases op with
    | And => exact sv_and ha hr
    | Or => exact sv_or ha hr
theorem sndA (C : Ct) (N : List Str) : ∀ (as : A) (sc : Scope) (fl : Bool) (w : Wi) (X : Cx), Ox C N sc fl w X → wfA C N sc as = true → SA X w (toA as) (evA C as)
  | .nil, sc, fl, w, X, o, h => sa_nil
  | .cons e as, sc, fl, w, X, o, h => by
    obtain ⟨h1, h2⟩ := and2 h
    exact sa_cons (sndE C N e sc fl w X o h1).1.sD (sndA C N as sc fl w X o h2) (nost e _ _)
theorem sndI (C : Ct) (N : List Str) : ∀ (it : I) (tg : Tt) (sc : Scope) (fl : Bool) (w : Wi) (X : Cx), Ox C N sc fl w X → pairB it tg = true → wfI C N sc it = true → SI X w tg.e (toI it) (evI C it)
  | .e a, tg, sc, fl, w, X, o, hp, h => si_seq (sndE C N a sc fl w X o h).1.sD
  | .r1 p a pos, tg, sc, fl, w, X, o, hp, h => by
    obtain ⟨h1, h2⟩ := and2 h
    exact si_rng1 (glo_ok' o h1) (o.bl _ (by decide)) (sa_cons (sndE C N a sc fl w X o h2).1.sD sa_nil (nost a _ _)) (nost a _ _)
  | .r2 p a b pos, tg, sc, fl, w, X, o, hp, h => by
    obtain ⟨h1, h2⟩ := and2 h
    obtain ⟨h2, h3⟩ := and2 h2
    exact si_rng2 (glo_ok' o h1) (o.bl _ (by decide)) (sa_cons (sndE C N a sc fl w X o h2).1.sD (sa_cons (sndE C N b sc fl w X o h3).1.sD sa_nil (nost b _ _)) (nost a _ _)) (by rw [nost, nost]; rfl) (nost b _ _)
  | .r3 p a b c pos, tg, sc, fl, w, X, o, hp, h => by
    obtain ⟨h1, h2⟩ := and2 h
    obtain ⟨h2, h3⟩ := and2 h2
    obtain ⟨h3, h4⟩ := and2 h3
    exact si_rng3 (glo_ok' o h1) (o.bl _ (by decide)) (sa_cons (sndE C N a sc fl w X o h2).1.sD (sa_cons (sndE C N b sc fl w X o h3).1.sD (sa_cons (sndE C N c sc fl w X o h4).1.sD sa_nil (nost c _ _)) (nost b _ _)) (nost a _ _)) (nost a _ _) (nosA _ _ (.cons b (.cons c .nil)))
  | .en p a pos, tg, sc, fl, w, X, o, hp, h => by
    obtain ⟨h1, h2⟩ := and2 h
    cases tg with
    | n i x p => cases hp
    | t2 i x px j y py k p => exact si_enu (glo_ok' o h1) (o.bl _ (by decide)) (sa_cons (sndE C N a sc fl w X o h2).1.sD sa_nil (nost a _ _)) (nost a _ _)
  | .zp p a b pos, tg, sc, fl, w, X, o, hp, h => by
    obtain ⟨h1, h2⟩ := and2 h
    obtain ⟨h2, h3⟩ := and2 h2
    cases tg with
    | n i x p => cases hp
    | t2 i x px j y py k p => exact si_zip (glo_ok' o h1) (o.bl _ (by decide)) (sa_cons (sndE C N a sc fl w X o h2).1.sD (sa_cons (sndE C N b sc fl w X o h3).1.sD sa_nil (nost b _ _)) (nost a _ _)) (nost a _ _) (nosA _ _ (.cons b .nil))
end
end
end PF
end
section
namespace PF
open PySem PySem.Spec PyProof.Rows L2
mutual
inductive S where
  | asg (i : Nat) (x : Str) (p : Pos) (e : E) (pos : Pos)
  | asgLc (i : Nat) (x : Str) (px : Pos) (elt : E) (tg : Tt) (it : I) (c : E) (scope : Scope) (own : List (Str × Nat)) (p pos : Pos)
  | asgT (t : Tt) (e : E) (pos : Pos)
  | par (i : Nat) (x : Str) (px : Pos) (j : Nat) (y : Str) (py : Pos) (a b : E) (kt : Nat) (pt : Pos) (k2 : Nat) (pt2 pos : Pos)
  | par3 (i : Nat) (x : Str) (px : Pos) (j : Nat) (y : Str) (py : Pos) (l : Nat) (z : Str) (pz : Pos) (a b c : E) (kt : Nat) (pt : Pos) (k2 : Nat) (pt2 pos : Pos)
  | setIx (i : Nat) (x : Str) (px : Pos) (k e : E) (ps pos : Pos)
  | augIx (o : Operator) (i : Nat) (x : Str) (px : Pos) (k e : E) (ps pos : Pos)
  | aug (o : Operator) (i : Nat) (x : Str) (p : Pos) (e : E) (pos : Pos)
  | app (i : Nat) (x : Str) (px : Pos) (e : E) (ap cp pos : Pos)
  | ext (i : Nat) (x : Str) (px : Pos) (e : E) (ap cp pos : Pos)
  | expr (e : E) (pos : Pos)
  | ret (e : E) (pos : Pos)
  | iff (c : E) (a b : L) (pos : Pos)
  | forr (t : Tt) (it : I) (b : L) (pos : Pos)
  | whl (n : Nat) (c : E) (b : L) (pos : Pos)
  | raise (c : Nat) (x : Str) (p : Pos) (m : Str) (j : Nat) (p2 cp pos : Pos)
inductive L where
  | nil
  | cons (s : S) (l : L)
end
mutual
def toS : S → Stmt
  | .asg _ x p e pos => .Assign [.Name x p] (toE e) pos
  | .asgLc _ x px elt tg it c scope _ p pos => .Assign [.Name x px] (.ListComp (toE elt) [⟨tg.e, toI it, ifsE c.isNo (toE c), 0⟩] scope p) pos
  | .asgT t e pos => .Assign [t.e] (toE e) pos
  | .par _ x px _ y py a b kt pt k2 pt2 pos => .Assign [.Tuple [.Name x px, .Name y py] kt pt] (.Tuple [toE a, toE b] k2 pt2) pos
  | .par3 _ x px _ y py _ z pz a b c kt pt k2 pt2 pos => .Assign [.Tuple [.Name x px, .Name y py, .Name z pz] kt pt] (.Tuple [toE a, toE b, toE c] k2 pt2) pos
  | .setIx _ x px k e ps pos => .Assign [.Subscript (.Name x px) (toE k) ps] (toE e) pos
  | .augIx o _ x px k e ps pos => .AugAssign (.Subscript (.Name x px) (toE k) ps) o (toE e) pos
  | .aug o _ x p e pos => .AugAssign (.Name x p) o (toE e) pos
  | .app _ x px e ap cp pos => .Expr (.Call (.Attribute (.Name x px) "append" ap) [toE e] [] cp) pos
  | .ext _ x px e ap cp pos => .Expr (.Call (.Attribute (.Name x px) "extend" ap) [toE e] [] cp) pos
  | .expr e pos => .Expr (toE e) pos
  | .ret e pos => .Return (some (toE e)) pos
  | .iff c a b pos => .If (toE c) (toL a) (toL b) pos
  | .forr t it b pos => .For t.e (toI it) (toL b) [] pos
  | .whl _ c b pos => .While (toE c) (toL b) [] pos
  | .raise _ x p m j p2 cp pos => .Raise (some (.Call (.Name x p) [.Constant (.str m) j p2] [] cp)) none pos
def toL : L → List Stmt
  | .nil => []
  | .cons s l => toS s :: toL l
end
mutual
def evS (C : Ct) : S → Rho → Fl
  | .asg i _ _ e _ => fAsg i (evE C e)
  | .asgLc i _ _ elt tg it c _ own _ _ => fAsg i (vLc (evI C it) tg.t (condB c.isNo (evT C c)) (sD (evE C elt)) (own.map (·.2)))
  | .asgT t e _ => fAsgT t.t (sD (evE C e))
  | .par i _ _ j _ _ a b _ _ _ _ _ => fPar i j (evE C a) (evE C b)
  | .par3 i _ _ j _ _ l _ _ a b c _ _ _ _ _ => fPar3 i j l (evE C a) (evE C b) (evE C c)
  | .setIx i _ _ k e _ _ => fSetIx i (sD (evE C e)) (sD (evE C k))
  | .augIx o i _ _ k e _ _ => fAugIx o i (sD (evE C k)) (sD (evE C e))
  | .aug o i _ _ e _ => fAug o i (sD (evE C e))
  | .app i _ _ e _ _ _ => fApp i (sD (evE C e))
  | .ext i _ _ e _ _ _ => fExt i (sD (evE C e))
  | .expr e _ => fExpr (evE C e)
  | .ret e _ => fRet (sD (evE C e))
  | .iff c a b _ => fIf (evT C c) (evL C a) (evL C b)
  | .forr t it b _ => fFor (evI C it) t.t (evL C b)
  | .whl n c b _ => whGo (evT C c) (evL C b) n
  | .raise c _ _ _ _ _ _ _ => fRaise c
def evL (C : Ct) : L → Rho → Fl
  | .nil => .nx
  | .cons s l => fun ρ => (evS C s ρ).seq (evL C l)
end
/-- a comprehension's store to x is a plain one -/
def swB (sc : Scope) (x : Str) (p : Pos) : E → Bool
  | .lc _ _ _ _ _ _ pl => !(locB sc x && p.line == pl.line)
  | _ => true
def noLc : E → Bool
  | .lc _ _ _ _ _ _ _ => false
  | _ => true
def swN (sc : Scope) : Tt → E → Bool
  | .n _ _ _, .lc _ _ _ _ _ _ _ => false
  | .n _ _ _, _ => true
  | .t2 _ x px _ y py _ _, .tup as _ _ => !(locB sc x && locB sc y && px.line == py.line) || (toA as).all (foldedForSure 8)
  | .t2 _ _ _ _ _ _ _ _, _ => true
def isFn (sc : Scope) : Bool := match sc.kind with
  | .function => true
  | _ => false
def ownN (scope : Scope) (y : Str) : Bool := scope.names.any fun (n, k) => n == y && (k == .local || k == .cell)
def exB (C : Ct) (c : Nat) (x : Str) : Bool := decide (C.ex[c]? = some x ∧ x ≠ ("" : Str))
mutual
def wfS (C : Ct) (N : List Str) (sc : Scope) : S → Bool
  | .asg i x p e _ => stX N sc true i x && (swB sc x p e && (isFn sc && wfE C N sc e))
  | .asgLc i x px elt tg it c scope own p _ => stX N sc true i x && (locB sc x && (isFn sc && (px.line == p.line && (!ownN scope x && wfE C N sc (.lc elt tg it c scope own p)))))
  | .asgT t e _ => wfT N sc true t && (swN sc t e && (isFn sc && wfE C N sc e))
  | .par i x px j y py a b _ _ _ _ _ => stX N sc true i x && (stX N sc true j y && (locB sc x && (locB sc y && (decide (i ≠ j) && (px.line == py.line && (!([toE a, toE b].all (foldedForSure 8)) && (!([toE a, toE b].all (constantsAlone 8)) && (isFn sc && (!(x == y) && (wfE C N sc a && wfE C N sc b))))))))))
  | .par3 i x px j y py l z pz a b c _ _ _ _ _ => stX N sc true i x && (stX N sc true j y && (stX N sc true l z && (locB sc x && (locB sc y && (locB sc z && (decide (i ≠ j) && (decide (i ≠ l) && (decide (j ≠ l) && (px.line == py.line && (px.line == pz.line && (!([toE a, toE b, toE c].all (foldedForSure 8)) &&
      (!([toE a, toE b, toE c].all (constantsAlone 8)) && (isFn sc && (!(x == y) && (!(x == z) && (!(y == z) && (wfE C N sc a && (wfE C N sc b && wfE C N sc c))))))))))))))))))
  | .setIx i x _ k e _ _ => nmB N sc i x && (wfE C N sc k && wfE C N sc e)
  | .augIx _ i x _ k e _ _ => nmB N sc i x && (wfE C N sc k && wfE C N sc e)
  | .aug _ i x _ e _ => stX N sc true i x && wfE C N sc e
  | .app i x _ e ap cp _ => nmB N sc i x && (ap.endLine == cp.line && wfE C N sc e)
  | .ext i x _ e ap cp _ => nmB N sc i x && (ap.endLine == cp.line && wfE C N sc e)
  | .expr e _ => noLc e && wfE C N sc e
  | .ret e _ => wfE C N sc e
  | .iff c a b _ => wfE C N sc c && (wfL C N sc a && wfL C N sc b)
  | .forr t it b _ => wfT N sc true t && (pairB it t && (wfI C N sc it && wfL C N sc b))
  | .whl _ c b _ => wfE C N sc c && wfL C N sc b
  | .raise c x _ _ _ _ _ _ => exB C c x && (gloB sc x && okX x)
def wfL (C : Ct) (N : List Str) (sc : Scope) : L → Bool
  | .nil => true
  | .cons s l => wfS C N sc s && wfL C N sc l
end
section
variable {C : Ct} {N : List Str} {sc : Scope} {w : Wi} {X : Cx}
theorem not_t {b : Bool} (h : (!b) = true) : b = false := by
  cases b with
  | false => rfl
  | true => cases h
theorem locB_ok (o : Ox C N sc true w X) {x : Str} (h : locB sc x = true) : X.env.scope.names.lookup x = some .local := by
  rw [o.hs]
  unfold locB at h
  split at h
  · assumption
  · cases h
theorem locB_iff (o : Ox C N sc true w X) (x : Str) : (X.env.kindOf x == some .local) = locB sc x := by
  show (X.env.scope.names.lookup x == some .local) = _
  rw [o.hs]
  unfold locB
  cases sc.names.lookup x with
  | none => rfl
  | some k => cases k <;> rfl
theorem isFn_ok (o : Ox C N sc true w X) (h : isFn sc = true) : X.env.blockKind = .function := by
  have e : sc.kind = .function := by
    unfold isFn at h
    split at h
    · assumption
    · cases h
  unfold Env.blockKind
  rw [o.hs, e]
  rfl
theorem sw_plain (o : Ox C N sc true w X) {x : Str} {p : Pos} {e : E} {l : Nat} (h : swB sc x p e = true) : swapsWith (toE e) (some (.Name x p)) l X.env = pure false := by
  cases e with
  | lc elt tg it c scope own pl =>
    have h : (!(locB sc x && p.line == pl.line)) = true := h
    have h : (locB sc x && p.line == pl.line) = false := not_t h
    show (do return X.env.blockKind == .function && X.env.kindOf x == some .local && p.line == pl.line && !(scope.names.any fun (n, k) => n == x && (k == .local || k == .cell)) : Sem Bool) = pure false
    rw [locB_iff o]
    have e : (X.env.blockKind == .function && locB sc x && p.line == pl.line && !(scope.names.any fun (n, k) => n == x && (k == .local || k == .cell))) = false := by
      rw [Bool.and_assoc (X.env.blockKind == .function), h, Bool.and_false, Bool.false_and]
    rw [e]
  | _ => rfl
theorem sw_drop {e : E} {l : Nat} {env : Env} (h : noLc e = true) : swapsWith (toE e) none l env = pure false := by
  cases e with
  | lc elt tg it c scope own pl => cases h
  | _ => rfl
theorem sw_tup {e : E} {l k : Nat} {p : Pos} {es : List Expr} {env : Env} : swapsWithSole [.Tuple es k p] (toE e) l env = pure false := by
  cases e <;> rfl
theorem sw_sub {e : E} {l : Nat} {p : Pos} {a b : Expr} {env : Env} : swapsWithSole [.Subscript a b p] (toE e) l env = pure false := by
  cases e <;> rfl
theorem ss_sub {e : E} {p : Pos} {a b : Expr} {env : Env} : swappedStores [.Subscript a b p] (toE e) env = pure none := by
  cases e <;> rfl
def starX : Expr → Bool
  | .Starred .. => true
  | _ => false
theorem nostar (e : E) : starX (toE e) = false := by cases e <;> rfl
theorem beq_symm {x y : Str} (h : (x == y) = false) : (y == x) = false := by
  simp at h ⊢
  exact fun e => h e.symm
theorem sp2 {env : Env} {x y : Str} {px py pt pt2 : Pos} {kt k2 : Nat} {a b : Expr} (hb : env.blockKind = .function) (hx : (env.kindOf x == some .local) = true) (hy : (env.kindOf y == some .local) = true) (hl : (py.line == px.line) = true) (hxy : (x == y) = false)
    (h1 : ([a, b].all (foldedForSure 8)) = false) (h2 : ([a, b].all (constantsAlone 8)) = false) (ha : starX a = false) (hbb : starX b = false) : swappedStores [.Tuple [.Name x px, .Name y py] kt pt] (.Tuple [a, b] k2 pt2) env = pure (some [x, y]) := by
  have hyx := beq_symm hxy
  unfold swappedStores
  simp only [hb, hx, hy, hl, h1, h2, Expr.pos, List.filterMap_cons, List.filterMap_nil, List.length_cons, List.length_nil, List.head?_cons, Option.map_some, Option.getD_some]
  simp [List.eraseDups_cons, hxy, hyx]
  intro hh
  exfalso
  rcases hh with hh | hh
  · cases a <;> first | (cases ha; done) | (cases hh; done)
  · cases b <;> first | (cases hbb; done) | (cases hh; done)
theorem sp3 {env : Env} {x y z : Str} {px py pz pt pt2 : Pos} {kt k2 : Nat} {a b c : Expr} (hb : env.blockKind = .function) (hx : (env.kindOf x == some .local) = true) (hy : (env.kindOf y == some .local) = true) (hz : (env.kindOf z == some .local) = true) (hl : (py.line == px.line) = true) (hl2 : (pz.line == px.line) = true)
    (hxy : (x == y) = false) (hxz : (x == z) = false) (hyz : (y == z) = false) (h1 : ([a, b, c].all (foldedForSure 8)) = false) (h2 : ([a, b, c].all (constantsAlone 8)) = false) (ha : starX a = false) (hbb : starX b = false) (hcc : starX c = false) :
    swappedStores [.Tuple [.Name x px, .Name y py, .Name z pz] kt pt] (.Tuple [a, b, c] k2 pt2) env = pure (some [x, y, z]) := by
  have hyx := beq_symm hxy
  have hzx := beq_symm hxz
  have hzy := beq_symm hyz
  unfold swappedStores
  simp only [hb, hx, hy, hz, hl, hl2, h1, h2, Expr.pos, List.filterMap_cons, List.filterMap_nil, List.length_cons, List.length_nil, List.head?_cons, Option.map_some, Option.getD_some]
  simp [List.eraseDups_cons, hxy, hyx, hxz, hzx, hyz, hzy]
  intro hh
  exfalso
  rcases hh with hh | hh | hh
  · cases a <;> first | (cases ha; done) | (cases hh; done)
  · cases b <;> first | (cases hbb; done) | (cases hh; done)
  · cases c <;> first | (cases hcc; done) | (cases hh; done)
/-- no stores are exchanged -/
theorem sn2 {env : Env} {x y : Str} {px py pt pt2 : Pos} {kt k2 : Nat} {vs : List Expr} (h : ((env.kindOf x == some .local && env.kindOf y == some .local && px.line == py.line) = false) ∨ vs.all (foldedForSure 8) = true) : swappedStores [.Tuple [.Name x px, .Name y py] kt pt] (.Tuple vs k2 pt2) env = pure none := by
  unfold swappedStores
  rcases h with h | h
  · cases hx : (env.kindOf x == some .local) <;> cases hy : (env.kindOf y == some .local) <;> cases hl : (py.line == px.line) <;>
      simp only [hx, hy, hl, Expr.pos, List.filterMap_cons, List.filterMap_nil, List.head?_cons, Option.map_some, Option.getD_some, beq_self_eq_true, Bool.and_true, Bool.and_false, Bool.false_and, Bool.true_and, if_true, if_false, Bool.false_eq_true, List.length_cons, List.length_nil] at h ⊢ <;>
      first
        | (simp; done)
        | (rw [show (px.line == py.line) = true by simpa using (show py.line = px.line by simpa using hl).symm] at h; cases h)
  · simp [h, Expr.pos]
end
end PF
end
section
namespace PF
open PySem PySem.Spec PyProof.Rows L2
/-- within a def's own body -/
structure Oy (C : Ct) (N : List Str) (sc : Scope) (w : Wi) (X : Cx) : Prop where
  o : Ox C N sc true w X
  po : PassesOwn (model X.prog X.w) X.A X.env X.xe
section
variable {C : Ct} {N : List Str} {sc : Scope} {w : Wi} {X : Cx}
theorem line_symm {a b : Nat} (h : (a == b) = true) : (b == a) = true := by
  simp at h ⊢
  exact h.symm
theorem noset_sub (e : E) (a b : Expr) (p : Pos) (env : Env) : (assignEach [.Subscript a b p] env).map (·.2) = [assign (.Subscript a b p) env] := rfl
theorem asg_sub (k : E) (a : Expr) (p : Pos) (env : Env) (v : Value) : assign (.Subscript a (toE k) p) env v = (do
      let ov ← holding [v] (eval a env)
      let iv ← holding [v, ov] (eval (toE k) env)
      standAt p
      holding [v, ov, iv] (setItem ov iv v)
      release [v, ov, iv] []) := by cases k <;> rfl
theorem aug_sub (k : E) (ov iv new : Value) : augStore (toE k) ov iv new = (do holding [new, ov, iv] (setItem ov iv new); release [new, ov, iv] []; pure .next) := by cases k <;> rfl
theorem asg_each (t : Tt) (env : Env) : (assignEach [t.e] env).map (·.2) = [assign t.e env] := by cases t <;> rfl
mutual
theorem sndS (C : Ct) (N : List Str) (sc : Scope) (w : Wi) (X : Cx) (y : Oy C N sc w X) : ∀ (s : S), wfS C N sc s = true → SS X w (toS s) (evS C s)
  | .asg i x p e pos, h => by
    obtain ⟨h1, h⟩ := and2 h
    obtain ⟨h2, h⟩ := and2 h
    obtain ⟨h3, h4⟩ := and2 h
    obtain ⟨g1, g2, g3⟩ := st_ok y.o h1
    exact ss_asg y.o.nd g1 g2 (sndE C N e sc true w X y.o h4).1 (sw_plain y.o h2) g3
  | .asgLc i x px elt tg it c scope own p pos, h => by
    obtain ⟨h1, h⟩ := and2 h
    obtain ⟨h2, h⟩ := and2 h
    obtain ⟨h3, h⟩ := and2 h
    obtain ⟨h4, h⟩ := and2 h
    obtain ⟨h5, h⟩ := and2 h
    obtain ⟨k1, h⟩ := and2 h
    obtain ⟨hb, h⟩ := and2 h
    obtain ⟨hp, hb⟩ := and2 hb
    obtain ⟨ht, h⟩ := and2 h
    obtain ⟨hi, h⟩ := and2 h
    obtain ⟨hc, he⟩ := and2 h
    obtain ⟨g1, g2, g3⟩ := st_ok y.o h1
    have hk : X.env.scope.kind = .function := by
      rw [y.o.hs]
      unfold isFn at h3
      split at h3
      · assumption
      · cases h3
    refine ss_asgLc y.o.calm y.o.nd g1 (locB_ok y.o h2) (sw_true hk (locB_ok y.o h2) h4 (not_t h5)) (sndI C N it tg sc true w X y.o hp k1) (by rw [y.o.hN, y.o.hs]; exact blkOk_by hb) (fun s H c' cl fp => sg_ok (y.o.blk s H scope c' cl fp) ht) (fun s H c' cl fp => ?_)
      (fun s H c' cl fp => (sndE C N elt _ false w.no _ (y.o.blk s H scope c' cl fp) he).1.sD) (nosetI it _) (fun k hk => ?_)
    · cases q : c.isNo with
      | true => exact sc_nil
      | false => exact sc_one (sndE C N c _ false w.no _ (y.o.blk s H scope c' cl fp) (or_no hc q)).2
    · exact of_decide_eq_true (List.all_eq_true.mp hi k hk)
  | .asgT t e pos, h => by
    obtain ⟨h1, h⟩ := and2 h
    obtain ⟨h2, h⟩ := and2 h
    obtain ⟨h3, h4⟩ := and2 h
    have he := (sndE C N e sc true w X y.o h4).1.sD
    cases t with
    | n i x p =>
      refine ss_asgT (sg_ok y.o h1) he ?_ ?_ (asg_each _ _)
      · cases e with
        | lc elt tg it c scope own pl => cases h2
        | _ => rfl
      · cases e <;> rfl
    | t2 i x px j z py k p =>
      refine ss_asgT (sg_ok y.o h1) he sw_tup ?_ (asg_each _ _)
      cases e with
      | tup as k2 p2 =>
        refine sn2 ?_
        have h2 : (!(locB sc x && locB sc z && px.line == py.line) || (toA as).all (foldedForSure 8)) = true := h2
        rw [locB_iff y.o, locB_iff y.o]
        rcases Bool.or_eq_true_iff.mp h2 with a | a
        · exact .inl (not_t a)
        · exact .inr a
      | _ => rfl
  | .par i x px j z py a b kt pt k2 pt2 pos, h => by
    obtain ⟨h1, h⟩ := and2 h
    obtain ⟨h2, h⟩ := and2 h
    obtain ⟨h3, h⟩ := and2 h
    obtain ⟨h4, h⟩ := and2 h
    obtain ⟨h5, h⟩ := and2 h
    obtain ⟨h6, h⟩ := and2 h
    obtain ⟨h7, h⟩ := and2 h
    obtain ⟨h8, h⟩ := and2 h
    obtain ⟨h9, h⟩ := and2 h
    obtain ⟨h10, h⟩ := and2 h
    obtain ⟨h11, h12⟩ := and2 h
    exact ss_par y.o.calm y.o.nd (st_ok y.o h1).1 (st_ok y.o h2).1 (of_decide_eq_true h5) (locB_ok y.o h3) (locB_ok y.o h4) (sndE C N a sc true w X y.o h11).1 (sndE C N b sc true w X y.o h12).1 (nost a _ _) (nost b _ _)
      (sp2 (isFn_ok y.o h9) (by rw [locB_iff y.o]; exact h3) (by rw [locB_iff y.o]; exact h4) (line_symm h6) (not_t h10) (not_t h7) (not_t h8) (nostar a) (nostar b)) rfl
  | .par3 i x px j z py l u pz a b c kt pt k2 pt2 pos, h => by
    obtain ⟨h1, h⟩ := and2 h
    obtain ⟨h2, h⟩ := and2 h
    obtain ⟨h3, h⟩ := and2 h
    obtain ⟨h4, h⟩ := and2 h
    obtain ⟨h5, h⟩ := and2 h
    obtain ⟨h6, h⟩ := and2 h
    obtain ⟨h7, h⟩ := and2 h
    obtain ⟨h8, h⟩ := and2 h
    obtain ⟨h9, h⟩ := and2 h
    obtain ⟨h10, h⟩ := and2 h
    obtain ⟨h11, h⟩ := and2 h
    obtain ⟨h12, h⟩ := and2 h
    obtain ⟨h13, h⟩ := and2 h
    obtain ⟨h14, h⟩ := and2 h
    obtain ⟨h15, h⟩ := and2 h
    obtain ⟨h16, h⟩ := and2 h
    obtain ⟨h17, h⟩ := and2 h
    obtain ⟨h18, h⟩ := and2 h
    obtain ⟨h19, h20⟩ := and2 h
    exact ss_par3 y.o.calm y.o.nd (st_ok y.o h1).1 (st_ok y.o h2).1 (st_ok y.o h3).1 (of_decide_eq_true h7) (of_decide_eq_true h8) (of_decide_eq_true h9) (locB_ok y.o h4) (locB_ok y.o h5) (locB_ok y.o h6)
      (sndE C N a sc true w X y.o h18).1 (sndE C N b sc true w X y.o h19).1 (sndE C N c sc true w X y.o h20).1 (nost a _ _) (nost b _ _) (nost c _ _)
      (sp3 (isFn_ok y.o h14) (by rw [locB_iff y.o]; exact h4) (by rw [locB_iff y.o]; exact h5) (by rw [locB_iff y.o]; exact h6) (line_symm h10) (line_symm h11) (not_t h15) (not_t h16) (not_t h17) (not_t h12) (not_t h13) (nostar a) (nostar b) (nostar c)) rfl
  | .setIx i x px k e ps pos, h => by
    obtain ⟨h1, h⟩ := and2 h
    obtain ⟨h2, h3⟩ := and2 h
    obtain ⟨n1, n2, n3, n4⟩ := nm_ok y.o h1
    exact ss_setIx n1 n2 n3 n4 (sndE C N k sc true w X y.o h2).1.sD (sndE C N e sc true w X y.o h3).1.sD (asg_sub k _ _ _) sw_sub ss_sub rfl
  | .augIx o i x px k e ps pos, h => by
    obtain ⟨h1, h⟩ := and2 h
    obtain ⟨h2, h3⟩ := and2 h
    obtain ⟨n1, n2, n3, n4⟩ := nm_ok y.o h1
    exact ss_augIx n1 n2 n3 n4 (sndE C N k sc true w X y.o h2).1.sD (sndE C N e sc true w X y.o h3).1.sD (aug_sub k)
  | .aug o i x p e pos, h => by
    obtain ⟨h1, h2⟩ := and2 h
    obtain ⟨g1, g2, g3⟩ := st_ok y.o h1
    exact ss_aug y.o.nd g1 g2 (sndE C N e sc true w X y.o h2).1.sD g3
  | .app i x px e ap cp pos, h => by
    obtain ⟨h1, h⟩ := and2 h
    obtain ⟨h2, h3⟩ := and2 h
    obtain ⟨n1, n2, n3, n4⟩ := nm_ok y.o h1
    exact ss_app n1 n2 n3 n4 (sndE C N e sc true w X y.o h3).1.sD h2 (nost e _ _)
  | .ext i x px e ap cp pos, h => by
    obtain ⟨h1, h⟩ := and2 h
    obtain ⟨h2, h3⟩ := and2 h
    obtain ⟨n1, n2, n3, n4⟩ := nm_ok y.o h1
    exact ss_ext n1 n2 n3 n4 (sndE C N e sc true w X y.o h3).1.sD h2 (nost e _ _)
  | .expr e pos, h => by
    obtain ⟨h1, h2⟩ := and2 h
    exact ss_expr (sndE C N e sc true w X y.o h2).1 (sw_drop h1)
  | .ret e pos, h => ss_ret (sndE C N e sc true w X y.o h).1.sD
  | .iff c a b pos, h => by
    obtain ⟨h1, h⟩ := and2 h
    obtain ⟨h2, h3⟩ := and2 h
    exact ss_if (sndE C N c sc true w X y.o h1).2 (sndL C N sc w X y a h2) (sndL C N sc w X y b h3)
  | .forr t it b pos, h => by
    obtain ⟨h1, h⟩ := and2 h
    obtain ⟨h2, h⟩ := and2 h
    obtain ⟨h3, h4⟩ := and2 h
    exact ss_for y.po y.o.calm (sndI C N it t sc true w X y.o h2 h3) (sg_ok y.o h1) (sndL C N sc w X y b h4) (nosetI it _)
  | .whl n c b pos, h => by
    obtain ⟨h1, h2⟩ := and2 h
    exact ss_while n y.po (sndE C N c sc true w X y.o h1).2 (sndL C N sc w X y b h2)
  | .raise c x p m j p2 cp pos, h => by
    obtain ⟨h1, h⟩ := and2 h
    obtain ⟨h2, h3⟩ := and2 h
    obtain ⟨e1, e2, e3, e4, e5⟩ := y.o.ex c x (of_decide_eq_true h1).1 (of_decide_eq_true h1).2
    exact ss_raise y.o.calm y.o.tk (pmk_own PySem.F.excBase_ValueError e2 e1 e3 (raises_own e4 e5) (glo_ok' y.o h2) (okX_ok h3).1)
theorem sndL (C : Ct) (N : List Str) (sc : Scope) (w : Wi) (X : Cx) (y : Oy C N sc w X) : ∀ (l : L), wfL C N sc l = true → SSs X w (toL l) (evL C l)
  | .nil, h => ss_nil
  | .cons s l, h => by
    obtain ⟨h1, h2⟩ := and2 h
    exact ss_cons (sndS C N sc w X y s h1) (sndL C N sc w X y l h2)
end
end

/-! defs -/
structure Fd where
  x : Str
  io : Bool
  ps : List (Str × Pos)
  N : List Str
  body : L
  scope : Scope
def Fd.pn (d : Fd) : List Str := d.ps.map (·.1)
def argsOf (ps : List (Str × Pos)) : Arguments := { posonlyargs := [], args := ps.map fun p => { arg := p.1, annotation := none, pos := p.2 }, vararg := none, kwonlyargs := [], kw_defaults := [], kwarg := none, defaults := [] }
/-- the slots at the entry -/
def entry (io : Bool) (n : Nat) (l : List D) (ds : List D) : Rho := (match io, ds with
  | true, d :: ds => .val d :: .io l :: ds.map .val
  | _, ds => ds.map .val) ++ List.replicate n .un
def outP : Fl → RF
  | .ret d _ => .ok d []
  | .nx _ => .ok .none []
  | .exc c _ => .exc c
  | .bad => .bad
def ioAt (ρ : Rho) (d : D) : RF := match (ρ[1]? : Option Sl) with
  | some (.io l) => .ok d l
  | _ => .bad
def outI : Fl → RF
  | .ret d ρ => ioAt ρ d
  | .nx ρ => ioAt ρ .none
  | _ => .bad
def semF (C : Ct) (d : Fd) (l : List D) (ds : List D) : RF := match d.io with
  | true => outI (evL C d.body (entry true (d.N.length - d.ps.length) l ds))
  | false => outP (evL C d.body (entry false (d.N.length - d.ps.length) [] ds))
def Fd.fn (C : Ct) (d : Fd) : Fn := ⟨d.x, d.io, d.ps.length, semF C d⟩
def mkFns (gl : List (Str × D)) (ex : List Str) : List Fd → List Fn → List Fn
  | [], acc => acc
  | d :: ds, acc => mkFns gl ex ds (acc ++ [d.fn ⟨acc, gl, ex⟩])
def scB (N ps : List Str) (sc : Scope) : Bool := (match sc.kind with | .function => true | _ => false) && ((!sc.isCoroutine) && ((!sc.isGenerator) && (decide N.Nodup && (decide (N.take ps.length = ps) && ((ps.all fun x => locB sc x || celB sc x) && sc.names.all fun y => (match y.2 with | .free => false | _ => true))))))
theorem scB_ok {N ps : List Str} {sc : Scope} (h : scB N ps sc = true) : FnScope N ps sc := by
  obtain ⟨h1, h⟩ := and2 h
  obtain ⟨h2, h⟩ := and2 h
  obtain ⟨h3, h⟩ := and2 h
  obtain ⟨h4, h⟩ := and2 h
  obtain ⟨h5, h⟩ := and2 h
  obtain ⟨h6, h7⟩ := and2 h
  refine ⟨?_, not_t h2, not_t h3, of_decide_eq_true h4, of_decide_eq_true h5, fun x hx => ?_, fun y hy e => ?_⟩
  · split at h1
    · assumption
    · cases h1
  · have q := List.all_eq_true.mp h6 x hx
    rcases Bool.or_eq_true_iff.mp q with q | q
    · unfold locB at q
      split at q
      · exact .inl (by assumption)
      · cases q
    · unfold celB at q
      split at q
      · exact .inr (by assumption)
      · cases q
  · have q := List.all_eq_true.mp h7 y hy
    simp only [e] at q
    cases q
/-- one statement, then others -/
def sq (f g : Rho → Fl) : Rho → Fl := fun ρ => (f ρ).seq g
/-- a def is well formed over those ahead of it -/
def fdB (C : Ct) (d : Fd) : Bool := scB d.N d.pn d.scope && (wfL C d.N d.scope d.body && (decide (d.ps.length ≤ d.N.length) && (true && decide (d.ps.length ≤ 5 ∧ (d.io = true → 2 ≤ d.ps.length)))))
def allB (gl : List (Str × D)) (ex : List Str) : List Fd → List Fn → Bool
  | [], _ => true
  | d :: ds, acc => fdB ⟨acc, gl, ex⟩ d && allB gl ex ds (acc ++ [d.fn ⟨acc, gl, ex⟩])
end PF
end
section
namespace PF
open PySem PySem.Spec PyProof.Rows L2

/-! how plain arguments bind -/
def BdOk (ps : List (Str × Pos)) : Prop := ∀ (x qual : Str) (body : List Stmt) (scope : Scope) (kV doc pm : Value) (an : Option Addr) (cdv ct : Value) (us : List Value), us.length = ps.length → bindArgs (PySem.W.fnOf x qual (argsOf ps) body scope .none kV doc pm an cdv ct) ⟨us, []⟩ = pure ((ps.map (·.1)).zip us)
theorem binds_of {K : PySem.W.Frag} {x qual : Str} {ps : List (Str × Pos)} {body : List Stmt} {scope : Scope} {f : Addr} {fd : FuncData} (F : FunD K x qual (argsOf ps) body scope [] [] f fd) (h : BdOk ps) : L2.Binds K fd (ps.map (·.1)) [] :=
  F.bindsN fun kV doc pm an cdv ct us hl => h _ _ _ _ _ _ _ _ _ _ us (by rw [hl, List.length_map])
/-- what the top has written, beside the defs -/
structure Wf (K : PySem.W.Frag) (mg : Str → Option Value) (ec : Nat → Addr) (gl : List (Str × D)) (ex : List Str) : Prop where
  gl : ∀ (j : Nat) (x : Str) (d : D), gl[j]? = some (x, d) → ∃ v u, mg x = some u ∧ RelV v u ∧ ∀ G, Dq K G v d
  bl : ∀ x ∈ bltNames, mg x = none
  ex : ∀ (c : Nat) (x : Str), ex[c]? = some x → x ≠ ("" : Str) → mg x = some (.ref (ec c)) ∧ PySem.W.excIn K (ec c) [.type "ValueError", .type "Exception", .type "BaseException", .type "object"] "ValueError.__new__" = true ∧ PySem.W.keepIn K (.ref (ec c)) = true ∧
    PySem.W.subIn K (.ref (ec c)) (.type "BaseException") = some true ∧ PySem.W.typeIn K (.ref (ec c)) = some (.type "type")
def FnC (P : Program) (w : World) (K : PySem.W.Frag) (mg : Str → Option Value) (base : Heap) (ec : Nat → Addr) (k : Nat) (F : Fn) : Prop := ∃ f fd ps, mg F.x = some (.ref f) ∧ PySem.W.keepIn K (.ref f) = true ∧ L2.Binds K fd ps [] ∧
  (F.io = false → FnOk P w K mg base (L2.CX P w) k f fd ps (spP K ec F.n (F.sem []))) ∧ (F.io = true → FnOk P w K mg base (L2.CX P w) k f fd ps (spI K F.n F.sem))
section
variable {P : Program} {w : World} {K : PySem.W.Frag} {mg : Str → Option Value} {base : Heap} {ec : Nat → Addr} {gl : List (Str × D)} {ex : List Str}
theorem FnC.mono {j k : Nat} {F : Fn} (h : FnC P w K mg base ec j F) (l : j ≤ k) : FnC P w K mg base ec k F := by
  obtain ⟨f, fd, ps, h1, h2, h3, h4, h5⟩ := h
  exact ⟨f, fd, ps, h1, h2, h3, fun e => (h4 e).mono l, fun e => (h5 e).mono l⟩
theorem ctx_ok {acc : List Fn} {d : Fd} {f : Addr} {cdv : Value} {A : Around} {outer : List Env} {s : Shared} {H : Hp} {E : XK} {k : Nat} (W : Wf K mg ec gl ex) (ha : ∀ F ∈ acc, FnC P w K mg base ec k F) (nd : d.N.Nodup) (hr : Room k (A.deeper (envOfC d.x d.scope s.heap.objs.size f cdv))) :
    Oy ⟨acc, gl, ex⟩ d.N d.scope ⟨ec, fun cls e _ H' => E cls e H'⟩ (cxOf (L2.CX P w) P w K mg base d.N d.x d.scope f cdv A outer s H E) where
  o := {
    hN := rfl
    nd := nd
    hs := rfl
    calm := rfl
    hu := by
      have := hr.un
      show (A.deeper (envOfC d.x d.scope s.heap.objs.size f cdv)).units + 65 < cLine
      omega
    tk := takes_of rfl rfl rfl rfl
    gl := W.gl
    bl := W.bl
    fn := fun F hF => by
      obtain ⟨f', fd, ps, h1, h2, h3, h4, h5⟩ := ha F hF
      exact ⟨k, f', fd, ps, h1, h2, h3, hr, h4, h5⟩
    ex := W.ex
    fnT := fun _ _ => rfl }
  po := passes_of rfl
theorem start_get {N : List Str} {vs : List V} {i : Nat} {v : V} (h : vs[i]? = some v) : (L2.start N vs)[i]? = some (some v) := by
  unfold L2.start
  have hi : i < vs.length := (List.getElem?_eq_some_iff.mp h).1
  rw [List.getElem?_append_left (by simpa using hi), List.getElem?_map, h]
  rfl
theorem map_un {ds : List D} {n i : Nat} {s : Sl} (h : (ds.map Sl.val ++ List.replicate n .un)[i]? = some s) : (∃ d, ds[i]? = some d ∧ s = .val d) ∨ s = .un := by
  by_cases hi : i < ds.length
  · rw [List.getElem?_append_left (by simpa using hi), List.getElem?_map] at h
    obtain ⟨d, e, rfl⟩ := Option.map_eq_some_iff.mp h
    exact .inl ⟨d, e, rfl⟩
  · rw [List.getElem?_append_right (by simpa using hi), List.getElem?_replicate] at h
    split at h
    · exact .inr (Option.some.inj h).symm
    · cases h
theorem rel_entry {N : List Str} {vs : List V} {ds : List D} {G H : Hp} {n : Nat} (sg : Same G H) (hd : Dqs K G vs ds) (hn : n + ds.length = N.length) : Rel ⟨K, H, G, fun _ => 0⟩ (ds.map Sl.val ++ List.replicate n .un) (L2.start N vs) G H where
  len := by
    unfold L2.start
    have := hd.length
    simp only [List.length_append, List.length_map, List.length_replicate]
    omega
  gh := sg
  h0 := Same.refl H
  g0 := fun a o e => .inl e
  sl := fun i s hs => by
    rcases map_un hs with ⟨d, e, rfl⟩ | rfl
    · obtain ⟨v, e1, n1⟩ := hd.get e
      exact ⟨v, start_get e1, n1⟩
    · trivial
  ap := fun i j p ⟨s, e, m, _⟩ => by
    rcases map_un e with ⟨d, _, rfl⟩ | rfl <;> cases m
theorem fn_plain {acc : List Fn} {d : Fd} {f : Addr} {fd : FuncData} {k : Nat} (W : Wf K mg ec gl ex) (ha : ∀ F ∈ acc, FnC P w K mg base ec k F) (F : FunD K d.x d.x (argsOf d.ps) (toL d.body) d.scope [] [] f fd) (io : d.io = false) (hb : fdB ⟨acc, gl, ex⟩ d = true) :
    FnOk P w K mg base (L2.CX P w) (k + 1) f fd d.pn (spP K ec d.ps.length (semF ⟨acc, gl, ex⟩ d [])) := by
  obtain ⟨h1, h⟩ := and2 hb
  obtain ⟨h2, h⟩ := and2 h
  obtain ⟨h3, h⟩ := and2 h
  have h3 := of_decide_eq_true h3
  refine F.ok (scB_ok h1) (fun vs H Q E h => by rw [h.1]; exact (List.length_map ..).symm) (fun cdv A outer s H vs Q E hr h => ?_)
  obtain ⟨hl, G, ds, sg, hd, rp⟩ := h
  have y := ctx_ok (d := d) (f := f) (cdv := cdv) (outer := outer) (H := H) (E := E) W ha (scB_ok h1).nd hr
  refine ⟨_, (sndL _ _ _ _ _ y d.body h2).r ⟨K, H, G, fun _ => 0⟩ rfl, ds.map Sl.val ++ List.replicate (d.N.length - d.ps.length) .un, G, rel_entry sg hd (by rw [← hd.length, hl]; omega), ?_⟩
  have e : semF ⟨acc, gl, ex⟩ d [] ds = outP (evL ⟨acc, gl, ex⟩ d.body (ds.map Sl.val ++ List.replicate (d.N.length - d.ps.length) .un)) := by
    unfold semF
    rw [io]
    rfl
  rw [e] at rp
  revert rp
  cases evL ⟨acc, gl, ex⟩ d.body (ds.map Sl.val ++ List.replicate (d.N.length - d.ps.length) .un) with
  | nx ρ => exact fun rp σ' G' H' s' r' => rp .non G' H' s' r'.gh r'.h0 r'.g0 .non
  | ret x ρ => exact fun rp v σ' G' H' s' r' n' => rp v G' H' s' r'.gh r'.h0 r'.g0 n'
  | exc c ρ => exact fun rp σ' G' H' s' r' => rp H' r'.h0
  | bad => exact fun rp => rp
def less (H : Hp) (p : Addr) : Hp := fun a => if a = p then none else H a
theorem less_ne {H : Hp} {p a : Addr} (h : a ≠ p) : less H p a = H a := if_neg h
theorem less_at {H : Hp} {p : Addr} : less H p p = none := if_pos rfl
theorem rel_entryI {N : List Str} {v0 : V} {us : List V} {d0 : D} {ds io : List D} {ws : List V} {G H : Hp} {p : Addr} {n : Nat} (sg : Same G H) (h0 : Dq K G v0 d0) (hd : Dqs K G us ds) (gp : G p = none) (hp : H p = some (.lst ws)) (hw : Dqs K G ws io) (hn : n + ds.length + 2 = N.length) :
    Rel ⟨K, less H p, G, fun _ => p⟩ (.val d0 :: .io io :: (ds.map Sl.val ++ List.replicate n .un)) (L2.start N (v0 :: .ref p :: us)) G H where
  len := by
    unfold L2.start
    have := hd.length
    simp only [List.length_cons, List.length_append, List.length_map, List.length_replicate]
    omega
  gh := sg
  h0 := fun a o e => by
    have e : less H p a = some o := e
    by_cases ha : a = p
    · rw [ha, less_at] at e
      cases e
    · rw [← less_ne (H := H) ha]
      exact e
  g0 := fun a o e => .inl e
  sl := fun i s hs => by
    match i with
    | 0 =>
      have hs := Option.some.inj hs
      subst hs
      exact ⟨v0, start_get rfl, h0⟩
    | 1 =>
      have hs := Option.some.inj hs
      subst hs
      exact So.ofMut ⟨p, start_get rfl, gp, less_at, ⟨ws, hp, hw⟩, fun _ => rfl⟩
    | i + 2 =>
      rcases map_un (show (ds.map Sl.val ++ List.replicate n .un)[i]? = some s from hs) with ⟨d, e, rfl⟩ | rfl
      · obtain ⟨v, e1, n1⟩ := hd.get e
        exact ⟨v, start_get (by exact e1), n1⟩
      · trivial
  ap := by
    have key : ∀ i q, Hd (.val d0 :: .io io :: (ds.map Sl.val ++ List.replicate n .un)) (L2.start N (v0 :: .ref p :: us)) i q → i = 1 := by
      intro i q ⟨s, e, m, _⟩
      match i with
      | 0 =>
        have e := Option.some.inj e
        subst e
        cases m
      | 1 => rfl
      | i + 2 =>
        rcases map_un (show (ds.map Sl.val ++ List.replicate n .un)[i]? = some s from e) with ⟨d, _, rfl⟩ | rfl <;> cases m
    intro i j q hi hj
    rw [key i q hi, key j q hj]
theorem fn_io {acc : List Fn} {d : Fd} {f : Addr} {fd : FuncData} {k : Nat} (W : Wf K mg ec gl ex) (ha : ∀ F ∈ acc, FnC P w K mg base ec k F) (F : FunD K d.x d.x (argsOf d.ps) (toL d.body) d.scope [] [] f fd) (io : d.io = true) (hb : fdB ⟨acc, gl, ex⟩ d = true) :
    FnOk P w K mg base (L2.CX P w) (k + 1) f fd d.pn (spI K d.ps.length (semF ⟨acc, gl, ex⟩ d)) := by
  obtain ⟨h1, h⟩ := and2 hb
  obtain ⟨h2, h⟩ := and2 h
  obtain ⟨h3, h⟩ := and2 h
  have h3 := of_decide_eq_true h3
  refine F.ok (scB_ok h1) (fun vs H Q E h => by rw [h.1]; exact (List.length_map ..).symm) (fun cdv A outer s H vs Q E hr h => ?_)
  obtain ⟨hl, G, v0, p, ws, us, d0, l, ds, rfl, sg, hd0, gp, hp, hw, hd, rp⟩ := h
  have y := ctx_ok (d := d) (f := f) (cdv := cdv) (outer := outer) (H := H) (E := E) W ha (scB_ok h1).nd hr
  refine ⟨_, (sndL _ _ _ _ _ y d.body h2).r ⟨K, less H p, G, fun _ => p⟩ rfl, .val d0 :: .io l :: (ds.map Sl.val ++ List.replicate (d.N.length - d.ps.length) .un), G, rel_entryI sg hd0 hd gp hp hw (by rw [← hd.length]; rw [List.length_cons, List.length_cons] at hl; omega), ?_⟩
  have e : semF ⟨acc, gl, ex⟩ d l (d0 :: ds) = outI (evL ⟨acc, gl, ex⟩ d.body (.val d0 :: .io l :: (ds.map Sl.val ++ List.replicate (d.N.length - d.ps.length) .un))) := by
    unfold semF
    rw [io]
    rfl
  rw [e] at rp
  have fin : ∀ (x : D) (ρ : Rho) (σ' : L2.St) (v : V) (G' H' : Hp), RpI K p G H Q (ioAt ρ x) → Same G G' → Rel ⟨K, less H p, G, fun _ => p⟩ ρ σ' G' H' → Dq K G' v x → Q v H' := by
    intro x ρ σ' v G' H' rp s' r' n'
    unfold ioAt at rp
    cases e1 : (ρ[1]? : Option Sl) with
    | none => rw [e1] at rp; exact rp.elim
    | some sl =>
      rw [e1] at rp
      cases sl with
      | io l' =>
        obtain ⟨q, a1, a2, a3, ⟨ws', a4, a5⟩, a6⟩ := own_so r' e1 rfl
        have a6 : q = p := a6 rfl
        subst a6
        refine rp v G' H' ws' s' r'.gh (fun a o ne e => r'.h0 a o ((less_ne ne).trans e)) (fun a o e => ?_) a4 a5 n'
        rcases r'.g0 a o e with z | z
        · exact .inl z
        · by_cases ha : a = q
          · rw [ha, a2] at e
            cases e
          · exact .inr ((less_ne ha).symm.trans z)
      | _ => exact rp.elim
  revert rp
  cases evL ⟨acc, gl, ex⟩ d.body (.val d0 :: .io l :: (ds.map Sl.val ++ List.replicate (d.N.length - d.ps.length) .un)) with
  | nx ρ => exact fun rp σ' G' H' s' r' => fin .none ρ σ' .non G' H' rp s' r' .non
  | ret x ρ => exact fun rp v σ' G' H' s' r' n' => fin x ρ σ' v G' H' rp s' r' n'
  | exc c ρ => exact fun rp => rp.elim
  | bad => exact fun rp => rp.elim
/-- THE PROGRAM: every def does what its piece says -/
theorem all_ok (W : Wf K mg ec gl ex) : ∀ (ds : List Fd) (acc : List Fn), allB gl ex ds acc = true → (∀ F ∈ acc, FnC P w K mg base ec acc.length F) →
    (∀ d ∈ ds, BdOk d.ps ∧ ∃ f fd, FunD K d.x d.x (argsOf d.ps) (toL d.body) d.scope [] [] f fd ∧ mg d.x = some (.ref f)) → ∀ F ∈ mkFns gl ex ds acc, FnC P w K mg base ec (acc.length + ds.length) F
  | [], acc, _, ha, _, F, hF => ha F hF
  | d :: ds, acc, h, ha, hd, F, hF => by
    obtain ⟨h1, h2⟩ := and2 h
    have hb := h1
    obtain ⟨_, hc⟩ := and2 h1
    obtain ⟨_, hc⟩ := and2 hc
    obtain ⟨_, hc⟩ := and2 hc
    obtain ⟨c1, c2⟩ := and2 hc
    obtain ⟨hbd, f, fd, FD, hm⟩ := hd d List.mem_cons_self
    have new : FnC P w K mg base ec (acc.length + 1) (d.fn ⟨acc, gl, ex⟩) := by
      refine ⟨f, fd, d.pn, hm, FD.kp, binds_of FD hbd, fun e => fn_plain W ha FD e hb, fun e => fn_io W ha FD e hb⟩
    have ih := all_ok W ds (acc ++ [d.fn ⟨acc, gl, ex⟩]) h2 (fun F' hF' => ?_) (fun d' hd' => hd d' (List.mem_cons_of_mem _ hd')) F hF
    · rw [List.length_append, List.length_singleton] at ih
      rw [List.length_cons, show acc.length + (ds.length + 1) = acc.length + 1 + ds.length by omega]
      exact ih
    · rw [List.length_append, List.length_singleton]
      rcases List.mem_append.mp hF' with z | z
      · exact (ha F' z).mono (by omega)
      · rw [List.mem_singleton.mp z]
        exact new
end
/-- the end of a law, the wishes by the world -/
theorem walkW {l : PySem.W.OpenLaw} {m k : Nat} {q : Program} {loose : List Str} {XP : (Str → Option Value) → Heap → Prop} {YP : World → Heap → Prop} {d : DefRec} {x : Str} (hn : l.most = some m) (hn2 : m ≤ sizeLine) (hdf : d.params.defaults = []) (hr : Room k callerA)
    (F : ∀ (w : World) (mg : Str → Option Value) (fa : Addr) (h : Heap), YP w h → h.Ns mainGlobals mg → mg d.name = some (.ref fa) → ∃ (K : PySem.W.Frag) (ec : Nat → Addr) (fd : FuncData) (sem : List D → RF), K.In h ∧ (∀ (s : Shared) (u : Value), BindsTo s fd ⟨[u], []⟩ [(x, u)]) ∧
      (∀ ns : List Int, ns.length ≤ m → ∃ io, sem [.scr ns] = .ok (.bool true) io) ∧ ∀ base : Heap, K.In base → base.Ns mainGlobals mg → FnOk l.prog w K mg base (L2.CX l.prog w) k fa fd [x] (spP K ec 1 sem)) : PySem.W.WalkO q loose XP YP l.row.toRowW d [] (fun f vs => PySem.call f vs) := by
  refine Att.attach_call hn hdf fun w s₀ s₁ mg mb fa o pm cd doc a vs ns G Y ho hd hcd hmg hobj hints hlen hg => ?_
  obtain ⟨K, ec, fd, sem, KX, hb, hsem, hF⟩ := F w mg fa _ Y G.T.g hmg
  refine law_call KX G.T.g G.T.b G.T.builtins G.T.nolimit hg hobj hints (Nat.le_trans hlen hn2) hr hF hb (fun H hO hS => ?_) fun H e s' c => ?_
  · obtain ⟨io, e⟩ := hsem ns hlen
    refine ⟨rfl, H, [.scr ns], Same.refl H, .cons (.scr hS) .nil, ?_⟩
    rw [e]
    intro v G' H' _ _ _ _ n
    cases n
    rfl
  · obtain ⟨_, _, _, _, _, _, _, _, _, _, _, _, z⟩ := c
    exact z.elim
end PF
end
section
namespace PF
open PySem PySem.Spec PyProof.Rows L2

/-! the head's Hook: the defs, the names, and what the top has written beside -/
section
mutual
def gB (K : PySem.W.Frag) : D → Value → Bool
  | .int i, .int j _ => decide (j = i)
  | .str x, .str y _ => decide (y = x)
  | .bool b, .bool c => c == b
  | .none, .none => true
  | .tup ds, .ref a => (match K.lookup a with
    | some ⟨.type c, _, .seq its _, _⟩ => decide (c = "tuple") && (decide (its.size ≤ sizeLine) && gBs K ds its.toList)
    | _ => false)
  | _, _ => false
def gBs (K : PySem.W.Frag) : List D → List Value → Bool
  | [], [] => true
  | d :: ds, u :: us => gB K d u && gBs K ds us
  | _, _ => false
end
mutual
theorem gB_ok {K : PySem.W.Frag} : ∀ (d : D) (u : Value), gB K d u = true → ∃ v, RelV v u ∧ ∀ H, Dq K H v d
  | .none, u, h => by
    cases u with
    | none => exact ⟨.non, rfl, fun _ => .non⟩
    | _ => simp [gB] at h
  | .bool b, u, h => by
    cases u with
    | bool c =>
      simp [gB] at h
      exact ⟨.bl b, by rw [h]; rfl, fun _ => .bl b⟩
    | _ => simp [gB] at h
  | .int i, u, h => by
    cases u with
    | int j t =>
      simp [gB] at h
      exact ⟨.int i, ⟨t, by rw [h]⟩, fun _ => .int i⟩
    | _ => simp [gB] at h
  | .str x, u, h => by
    cases u with
    | str y t =>
      simp [gB] at h
      exact ⟨.str x, ⟨t, by rw [h]⟩, fun _ => .str x⟩
    | _ => simp [gB] at h
  | .lst ds, u, h => by simp [gB] at h
  | .scr ds, u, h => by simp [gB] at h
  | .tup ds, u, h => by
    cases u with
    | ref a =>
      unfold gB at h
      cases q : K.lookup a with
      | none =>
        rw [q] at h
        cases h
      | some o =>
        obtain ⟨oc, od, dt, osl⟩ := o
        rw [q] at h
        cases oc with
        | type c =>
          cases dt with
          | seq its n =>
            obtain ⟨h1, h⟩ := He.ba h
            obtain ⟨h2, h3⟩ := He.ba h
            obtain ⟨vs, hv, hd⟩ := gBs_ok ds its.toList h3
            exact ⟨.ref a, rfl, fun H => .tup (.inr ⟨_, its, n, q, congrArg Value.type (of_decide_eq_true h1), rfl, of_decide_eq_true h2, hv⟩) (hd H)⟩
          | _ => cases h
        | _ => cases dt <;> cases h
    | _ => simp [gB] at h
theorem gBs_ok {K : PySem.W.Frag} : ∀ (ds : List D) (us : List Value), gBs K ds us = true → ∃ vs, Vals vs us ∧ ∀ H, Dqs K H vs ds
  | [], [], _ => ⟨[], .nil, fun _ => .nil⟩
  | [], _ :: _, h => by simp [gBs] at h
  | _ :: _, [], h => by simp [gBs] at h
  | d :: ds, u :: us, h => by
    unfold gBs at h
    obtain ⟨h1, h2⟩ := He.ba h
    obtain ⟨v, a1, a2⟩ := gB_ok d u h1
    obtain ⟨vs, b1, b2⟩ := gBs_ok ds us h2
    exact ⟨v :: vs, .cons a1 b1, fun H => .cons (a2 H) (b2 H)⟩
end
def tgB (K : PySem.W.Frag) (gl : List (Str × D)) : Bool := gl.all fun p => match PySem.W.nsIn K mainGlobals p.1 with
  | some (some u) => gB K p.2 u
  | _ => false
theorem tgB_ok {K : PySem.W.Frag} {gl : List (Str × D)} {h : Heap} {mg : Str → Option Value} (X : K.In h) (G : h.Ns mainGlobals mg) (e : tgB K gl = true) {j : Nat} {x : Str} {d : D} (hj : gl[j]? = some (x, d)) : ∃ v u, mg x = some u ∧ RelV v u ∧ ∀ G, Dq K G v d := by
  have c := List.all_eq_true.mp e _ (List.mem_of_getElem? hj)
  simp only at c
  cases q : PySem.W.nsIn K mainGlobals x with
  | none =>
    rw [q] at c
    cases c
  | some o =>
    rw [q] at c
    cases o with
    | none => cases c
    | some u =>
      obtain ⟨v, h1, h2⟩ := gB_ok d u c
      exact ⟨v, u, PySem.W.mg_of X G q, h1, h2⟩
end
def Fd.dd (d : Fd) : He.DefD := ⟨(d.x, none), d.x, d.x, argsOf d.ps, toL d.body, d.scope, [], []⟩
def facts (ex : List Str) (fds : List Fd) : List He.Fa := fds.map (fun d => .glo d.x) ++ (bltNames.map .free ++ ((ex.filter fun x => decide (x ≠ ("" : Str))).map .glo ++ (ex.filter fun x => decide (x ≠ ("" : Str))).map .exc))
def obsX (gl : List (Str × D)) (fa : List He.Fa) (fn : List He.DefD) (K : PySem.W.Frag) : He.AlD := (tgB K gl && ((fa.all fun f => f.ok K) && fn.all fun d => d.ok K), fn.map fun d => He.fnW K d.at_)
def SaysX (gl : List (Str × D)) (fa : List He.Fa) (fn : List He.DefD) (K : PySem.W.Frag) : Prop := tgB K gl = true ∧ He.SaysD fa fn K
theorem obsX_ok {gl : List (Str × D)} {fa : List He.Fa} {fn : List He.DefD} {K : PySem.W.Frag} (e : obsX gl fa fn K = He.valD fn) : SaysX gl fa fn K := by
  have e1 := congrArg Prod.fst e
  have e2 := congrArg Prod.snd e
  obtain ⟨c1, c2⟩ := He.ba (show (tgB K gl && ((fa.all fun f => f.ok K) && fn.all fun d => d.ok K)) = true from e1)
  exact ⟨c1, Prod.ext c2 e2⟩
def obsXG (n : Nat) (gl : List (Str × D)) (fa : List He.Fa) (fn : List He.DefD) (g : Addr → Option Obj) : He.AlD := obsX gl fa fn (He.frG g (He.asD g n))
def hookX (n : Nat) (gl : List (Str × D)) (fa : List He.Fa) (fn : List He.DefD) : PySem.W.Hook where
  α := He.AlD
  obs := fun s => obsXG n gl fa fn s.heap.get?
  val := fun _ => He.valD fn
  says := fun _ h => ∃ K : PySem.W.Frag, K.In h ∧ SaysX gl fa fn K
  of := fun _ _ e => ⟨_, He.frG_in, obsX_ok e⟩
  keeps := fun _ _ _ ⟨K, hK, c⟩ k => ⟨K, PySem.W.Frag.In.keeps hK k, c⟩
theorem obsXG_eq {n : Nat} {gl : List (Str × D)} {fa : List He.Fa} {fn : List He.DefD} {g : Addr → Option Obj} {s : Shared} (h : ∀ a, g a = s.heap.get? a) : obsXG n gl fa fn g = (hookX n gl fa fn).obs s := by
  have e : g = s.heap.get? := funext h
  rw [e] <;> rfl
section
variable {gl : List (Str × D)} {ex : List Str} {fds : List Fd} {fn : List He.DefD} {K : PySem.W.Frag} {h : Heap} {mg : Str → Option Value}
theorem says_fact {fa : List He.Fa} (c : He.SaysD fa fn K) {f : He.Fa} (hf : f ∈ fa) : f.ok K = true := by
  obtain ⟨i, hi⟩ := List.mem_iff_getElem?.mp hf
  exact c.fact i hi
theorem wf_of (X : K.In h) (G : h.Ns mainGlobals mg) (c : SaysX gl (facts ex fds) fn K) : Wf K mg (fun c => He.ga K (ex.getD c "")) gl ex where
  gl := fun j x d hj => tgB_ok X G c.1 hj
  bl := fun x hx => He.free_ok X G (says_fact c.2 (List.mem_append_right _ (List.mem_append_left _ (List.mem_map_of_mem hx))))
  ex := fun i x hi hne => by
    have hm : x ∈ ex.filter fun x => decide (x ≠ ("" : Str)) := List.mem_filter.mpr ⟨List.mem_of_getElem? hi, decide_eq_true hne⟩
    have e : ex.getD i "" = x := by rw [List.getD_eq_getElem?_getD, hi]; rfl
    have g := He.glo_ok X G (says_fact c.2 (f := .glo x) (List.mem_append_right _ (List.mem_append_right _ (List.mem_append_left _ (List.mem_map_of_mem hm)))))
    have z := He.exc_ok (says_fact c.2 (f := .exc x) (List.mem_append_right _ (List.mem_append_right _ (List.mem_append_right _ (List.mem_map_of_mem hm)))))
    simp only [e]
    exact ⟨g, z.1, z.2.1, z.2.2.1, z.2.2.2⟩
theorem fun_of (X : K.In h) (G : h.Ns mainGlobals mg) (c : SaysX gl (facts ex fds) (fds.map Fd.dd) K) {d : Fd} (hd : d ∈ fds) : ∃ f fd, FunD K d.x d.x (argsOf d.ps) (toL d.body) d.scope [] [] f fd ∧ mg d.x = some (.ref f) := by
  have g := He.glo_ok X G (says_fact c.2 (f := .glo d.x) (List.mem_append_left _ (List.mem_map_of_mem hd)))
  obtain ⟨i, hi⟩ := List.mem_iff_getElem?.mp (List.mem_map_of_mem (f := Fd.dd) hd)
  obtain ⟨fd, F⟩ := c.2.def_ i hi
  exact ⟨_, fd, F, g⟩
end
/-- a law's last def, over the others -/
def lawSem (gl : List (Str × D)) (ex : List Str) (fds : List Fd) (dl : Fd) : List D → RF := semF ⟨mkFns gl ex fds [], gl, ex⟩ dl []
theorem walkX {l : PySem.W.OpenLaw} {m : Nat} {q : Program} {loose : List Str} {XP : (Str → Option Value) → Heap → Prop} {gl : List (Str × D)} {ex : List Str} {fds : List Fd} {dl : Fd} {d : DefRec} {n : Nat} {x : Str}
    (hn : l.most = some m) (hn2 : m ≤ sizeLine) (hdf : d.params.defaults = []) (hr : Room (fds.length + 1) callerA) (hnm : d.name = dl.x) (hps : dl.ps.map (·.1) = [x]) (hio : dl.io = false) (bds : ∀ d ∈ dl :: fds, BdOk d.ps) (ok1 : allB gl ex fds [] = true) (ok2 : fdB ⟨mkFns gl ex fds [], gl, ex⟩ dl = true)
    (hsem : ∀ ns : List Int, ns.length ≤ m → ∃ io, lawSem gl ex fds dl [.scr ns] = .ok (.bool true) io) :
    PySem.W.WalkO q loose XP (hookX n gl (facts ex (dl :: fds)) ((dl :: fds).map Fd.dd)).says l.row.toRowW d [] (fun f vs => PySem.call f vs) := by
  refine walkW (x := x) hn hn2 hdf hr ?_
  intro w mg fa h Y G hmg
  obtain ⟨K, KX, c⟩ := Y
  obtain ⟨f, fd, F, e⟩ := fun_of KX G c (d := dl) List.mem_cons_self
  rw [hnm, e] at hmg
  have hmg := Option.some.inj hmg
  cases hmg
  refine ⟨K, fun c => He.ga K (ex.getD c ""), fd, lawSem gl ex fds dl, KX, fun s u => ?_, hsem, fun base KB GB => ?_⟩
  · have b := FunD.bindsA (ps := dl.ps.map (·.1)) F (fun _ _ _ _ _ _ us hl => bds dl List.mem_cons_self _ _ _ _ _ _ _ _ _ _ us (by rw [hl, List.length_map])) s [u] (by rw [hps]; rfl)
    rw [hps] at b
    exact b
  · have W := wf_of (fds := dl :: fds) KX G c
    have a := all_ok (P := l.prog) (w := w) (base := base) W fds [] ok1 (fun F hF => nomatch hF) (fun d hd => ⟨bds d (List.mem_cons_of_mem _ hd), fun_of KX G c (List.mem_cons_of_mem _ hd)⟩)
    rw [List.length_nil, Nat.zero_add] at a
    have z := fn_plain W a F hio ok2
    unfold Fd.pn at z
    have e1 : dl.ps.length = 1 := by
      have := congrArg List.length hps
      rwa [List.length_map] at this
    rw [hps, e1] at z
    exact z
end PF
end
section
namespace PF
open PySem PySem.Spec PyProof.Rows L2
theorem mk_step {gl : List (Str × D)} {ex : List Str} {d : Fd} {ds : List Fd} {acc : List Fn} {F : Fn} (h : d.fn ⟨acc, gl, ex⟩ = F) : mkFns gl ex (d :: ds) acc = mkFns gl ex ds (acc ++ [F]) := by
  rw [← h]
  rfl
def cb_is_integer : List D → List D → RF := fun l ds => outP ((sq (fRet (sD (vAnd (vIsi .int (sD (rVar 0))) (vAnd (vNot (vIsi .bool (sD (rVar 0)))) (chn (cmpD .LtE) (cmpD .LtE) (sD (rVar 1)) (sD (rVar 0)) (sD (rVar 2)))))))
  Fl.nx)
  (entry false 0 [] ds))
def cb_times_itself_b1 : Rho → Fl := (sq (fAug .Mult 2 (sD (rVar 0)))
  Fl.nx)
def cb_times_itself : List D → List D → RF := fun l ds => outP ((sq (fAsg 2 (rCon (.int 1)))
  (sq (fFor (iR1 (aCons (sD (rVar 1)) aNil)) (.n 3) cb_times_itself_b1)
  (sq (fRet (sD (rVar 2)))
  Fl.nx)))
  (entry false 2 [] ds))
def cb_is_ring_e1 : Rho → R D := (sD (callP 3 (cb_is_integer []) (aCons (sD (rVar 3)) (aCons (sD (rCon (.int 0))) (aCons (sD (bin2 (opD .Sub) (sD (rVar 1)) (sD (rCon (.int 1))))) aNil)))))
def cb_is_ring : List D → List D → RF := fun l ds => outP ((sq (fIf (fOr (fNot (fun ρ => tru ((vIsi .tuple (sD (rVar 0))) ρ))) (fun ρ => tru ((bin2 (cmpD .NotEq) (sD (vLenV 0)) (sD (rCon (.int 2)))) ρ)))
    (sq (fRet (sD (rCon (.bool false))))
  Fl.nx)
    Fl.nx)
  (sq (fAsgT (.t2 1 2) (sD (rVar 0)))
  (sq (fIf (fOr (fNot (fun ρ => tru ((callP 3 (cb_is_integer []) (aCons (sD (rVar 1)) (aCons (sD (rCon (.int 2))) (aCons (sD (rCon (.int 31))) aNil)))) ρ))) (fOr (fun ρ => tru ((bin2 (cmpD .NotIn) (sD (rVar 1)) (sD (rCon (.tup [.int 2, .int 3, .int 5, .int 7, .int 11, .int 13, .int 17, .int 19, .int 23, .int 29, .int 31])))) ρ)) (fOr (fNot (fun ρ => tru ((vIsi .tuple (sD (rVar 2))) ρ))) (fNot (fun ρ => tru ((chn (cmpD .LtE) (cmpD .LtE) (sD (rCon (.int 1))) (sD (vLenV 2)) (sD (rCon (.int 5)))) ρ))))))
    (sq (fRet (sD (rCon (.bool false))))
  Fl.nx)
    Fl.nx)
  (sq (fRet (sD (vAnd (bin2 (cmpD .LtE) (sD (callP 2 (cb_times_itself []) (aCons (sD (rVar 1)) (aCons (sD (vLenV 2)) aNil)))) (sD (rCon (.int 32)))) (vBlt (bltD .all) (aCons (sD (vLc (iSeq (sD (rVar 2))) (.n 3) cYes cb_is_ring_e1 [3])) aNil)))))
  Fl.nx))))
  (entry false 3 [] ds))
def cb_check_ring : List D → List D → RF := fun l ds => outP ((sq (fIf (fNot (fun ρ => tru ((callP 1 (cb_is_ring []) (aCons (sD (rVar 0)) aNil)) ρ)))
    (sq (fRaise 0)
  Fl.nx)
    Fl.nx)
  Fl.nx)
  (entry false 0 [] ds))
def cb_size_of : List D → List D → RF := fun l ds => outP ((sq (fRet (sD (callP 2 (cb_times_itself []) (aCons (sD (gIxv 0 (sD (rCon (.int 0))))) (aCons (sD (vBlt (bltD .len) (aCons (sD (gIxv 0 (sD (rCon (.int 1))))) aNil))) aNil)))))
  Fl.nx)
  (entry false 0 [] ds))
def cb_size : List D → List D → RF := fun l ds => outP ((sq (fExpr (callP 1 (cb_check_ring []) (aCons (sD (rVar 0)) aNil)))
  (sq (fRet (sD (callP 1 (cb_size_of []) (aCons (sD (rVar 0)) aNil))))
  Fl.nx))
  (entry false 0 [] ds))
def cb_check_element : List D → List D → RF := fun l ds => outP ((sq (fIf (fNot (fun ρ => tru ((callP 3 (cb_is_integer []) (aCons (sD (rVar 1)) (aCons (sD (rCon (.int 0))) (aCons (sD (bin2 (opD .Sub) (sD (callP 1 (cb_size_of []) (aCons (sD (rVar 0)) aNil))) (sD (rCon (.int 1))))) aNil)))) ρ)))
    (sq (fRaise 3)
  Fl.nx)
    Fl.nx)
  Fl.nx)
  (entry false 0 [] ds))
def cb_check_two : List D → List D → RF := fun l ds => outP ((sq (fExpr (callP 1 (cb_check_ring []) (aCons (sD (rVar 0)) aNil)))
  (sq (fExpr (callP 2 (cb_check_element []) (aCons (sD (rVar 0)) (aCons (sD (rVar 1)) aNil))))
  (sq (fExpr (callP 2 (cb_check_element []) (aCons (sD (rVar 0)) (aCons (sD (rVar 2)) aNil))))
  Fl.nx)))
  (entry false 0 [] ds))
def cb_digits_of_b1 : Rho → Fl := (sq (fApp 2 (sD (bin2 (opD .Mod) (sD (rVar 1)) (sD (gIxv 0 (sD (rCon (.int 0))))))))
  (sq (fAsg 1 (bin2 (opD .FloorDiv) (sD (rVar 1)) (sD (gIxv 0 (sD (rCon (.int 0)))))))
  Fl.nx))
def cb_digits_of : List D → List D → RF := fun l ds => outP ((sq (fAsg 2 (dLst aNil))
  (sq (fFor (iSeq (sD (gIxv 0 (sD (rCon (.int 1)))))) (.n 3) cb_digits_of_b1)
  (sq (fRet (sD (rVar 2)))
  Fl.nx)))
  (entry false 2 [] ds))
def cb_element_of_b1 : Rho → Fl := (sq (fAsg 2 (bin2 (opD .Add) (sD (bin2 (opD .Mult) (sD (rVar 2)) (sD (gIxv 0 (sD (rCon (.int 0))))))) (sD (bin2 (opD .Mod) (sD (rVar 3)) (sD (gIxv 0 (sD (rCon (.int 0)))))))))
  Fl.nx)
def cb_element_of : List D → List D → RF := fun l ds => outP ((sq (fAsg 2 (rCon (.int 0)))
  (sq (fFor (iSeq (sD (vRev (sD (rVar 1))))) (.n 3) cb_element_of_b1)
  (sq (fRet (sD (rVar 2)))
  Fl.nx)))
  (entry false 2 [] ds))
def cb_plus_e1 : Rho → R D := (sD (bin2 (opD .Add) (sD (rVar 3)) (sD (rVar 4))))
def cb_plus : List D → List D → RF := fun l ds => outP ((sq (fRet (sD (callP 2 (cb_element_of []) (aCons (sD (rVar 0)) (aCons (sD (vLc (iZipD (aCons (sD (callP 2 (cb_digits_of []) (aCons (sD (rVar 0)) (aCons (sD (rVar 1)) aNil)))) (aCons (sD (callP 2 (cb_digits_of []) (aCons (sD (rVar 0)) (aCons (sD (rVar 2)) aNil)))) aNil))) (.t2 3 4) cYes cb_plus_e1 [3, 4])) aNil)))))
  Fl.nx)
  (entry false 2 [] ds))
def cb_times_b1 : Rho → Fl := (sq (fAugIx .Sub 6 (sD (bin2 (opD .Add) (sD (bin2 (opD .Sub) (sD (rVar 11)) (sD (rVar 5)))) (sD (rVar 7)))) (sD (bin2 (opD .Mult) (sD (rVar 8)) (sD (gIxv 6 (sD (rVar 11)))))))
  Fl.nx)
def cb_times_b2 : Rho → Fl := (sq (fFor (iEnu (aCons (sD (rVar 4)) aNil)) (.t2 7 8) cb_times_b1)
  Fl.nx)
def cb_times_b3 : Rho → Fl := (sq (fAugIx .Add 6 (sD (bin2 (opD .Add) (sD (rVar 7)) (sD (rVar 9)))) (sD (bin2 (opD .Mult) (sD (rVar 8)) (sD (rVar 10)))))
  Fl.nx)
def cb_times_b4 : Rho → Fl := (sq (fFor (iEnu (aCons (sD (callP 2 (cb_digits_of []) (aCons (sD (rVar 0)) (aCons (sD (rVar 2)) aNil)))) aNil)) (.t2 9 10) cb_times_b3)
  Fl.nx)
def cb_times : List D → List D → RF := fun l ds => outP ((sq (fAsgT (.t2 3 4) (sD (rVar 0)))
  (sq (fAsg 5 (vLenV 4))
  (sq (fAsg 6 (bin2 (opD .Mult) (sD (dLst (aCons (sD (rCon (.int 0))) aNil))) (sD (bin2 (opD .Mult) (sD (rCon (.int 2))) (sD (rVar 5))))))
  (sq (fFor (iEnu (aCons (sD (callP 2 (cb_digits_of []) (aCons (sD (rVar 0)) (aCons (sD (rVar 1)) aNil)))) aNil)) (.t2 7 8) cb_times_b4)
  (sq (fFor (iR3 (aCons (sD (bin2 (opD .Sub) (sD (bin2 (opD .Mult) (sD (rCon (.int 2))) (sD (rVar 5)))) (sD (rCon (.int 1))))) (aCons (sD (bin2 (opD .Sub) (sD (rVar 5)) (sD (rCon (.int 1))))) (aCons (sD (vNeg (sD (rCon (.int 1))))) aNil)))) (.n 11) cb_times_b2)
  (sq (fRet (sD (callP 2 (cb_element_of []) (aCons (sD (rVar 0)) (aCons (sD (vSl (sD (rVar 6)) oNone (oSome (sD (rVar 5))))) aNil)))))
  Fl.nx))))))
  (entry false 9 [] ds))
def cb_minus_e1 : Rho → R D := (sD (bin2 (opD .Sub) (sD (rCon (.int 0))) (sD (rVar 2))))
def cb_minus : List D → List D → RF := fun l ds => outP ((sq (fRet (sD (callP 2 (cb_element_of []) (aCons (sD (rVar 0)) (aCons (sD (vLc (iSeq (sD (callP 2 (cb_digits_of []) (aCons (sD (rVar 0)) (aCons (sD (rVar 1)) aNil))))) (.n 2) cYes cb_minus_e1 [2])) aNil)))))
  Fl.nx)
  (entry false 1 [] ds))
def cb_raised_c1 : Rho → R Bool := (fun ρ => tru ((bin2 (cmpD .Gt) (sD (rVar 2)) (sD (rCon (.int 0)))) ρ))
def cb_raised_b2 : Rho → Fl := (sq (fIf (fun ρ => tru ((bin2 (cmpD .Eq) (sD (bin2 (opD .Mod) (sD (rVar 2)) (sD (rCon (.int 2))))) (sD (rCon (.int 1)))) ρ))
    (sq (fAsg 3 (callP 3 (cb_times []) (aCons (sD (rVar 0)) (aCons (sD (rVar 3)) (aCons (sD (rVar 1)) aNil)))))
  Fl.nx)
    Fl.nx)
  (sq (fPar 1 2 (callP 3 (cb_times []) (aCons (sD (rVar 0)) (aCons (sD (rVar 1)) (aCons (sD (rVar 1)) aNil)))) (bin2 (opD .FloorDiv) (sD (rVar 2)) (sD (rCon (.int 2)))))
  Fl.nx))
def cb_raised : List D → List D → RF := fun l ds => outP ((sq (fAsg 3 (rCon (.int 1)))
  (sq (whGo cb_raised_c1 cb_raised_b2 100)
  (sq (fRet (sD (rVar 3)))
  Fl.nx)))
  (entry false 1 [] ds))
def cb_add : List D → List D → RF := fun l ds => outP ((sq (fExpr (callP 3 (cb_check_two []) (aCons (sD (rVar 0)) (aCons (sD (rVar 1)) (aCons (sD (rVar 2)) aNil)))))
  (sq (fRet (sD (callP 3 (cb_plus []) (aCons (sD (rVar 0)) (aCons (sD (rVar 1)) (aCons (sD (rVar 2)) aNil))))))
  Fl.nx))
  (entry false 0 [] ds))
def cb_multiply : List D → List D → RF := fun l ds => outP ((sq (fExpr (callP 3 (cb_check_two []) (aCons (sD (rVar 0)) (aCons (sD (rVar 1)) (aCons (sD (rVar 2)) aNil)))))
  (sq (fRet (sD (callP 3 (cb_times []) (aCons (sD (rVar 0)) (aCons (sD (rVar 1)) (aCons (sD (rVar 2)) aNil))))))
  Fl.nx))
  (entry false 0 [] ds))
def cb_negative : List D → List D → RF := fun l ds => outP ((sq (fExpr (callP 1 (cb_check_ring []) (aCons (sD (rVar 0)) aNil)))
  (sq (fExpr (callP 2 (cb_check_element []) (aCons (sD (rVar 0)) (aCons (sD (rVar 1)) aNil))))
  (sq (fRet (sD (callP 2 (cb_minus []) (aCons (sD (rVar 0)) (aCons (sD (rVar 1)) aNil)))))
  Fl.nx)))
  (entry false 0 [] ds))
def cb_power : List D → List D → RF := fun l ds => outP ((sq (fExpr (callP 1 (cb_check_ring []) (aCons (sD (rVar 0)) aNil)))
  (sq (fExpr (callP 2 (cb_check_element []) (aCons (sD (rVar 0)) (aCons (sD (rVar 1)) aNil))))
  (sq (fIf (fNot (fun ρ => tru ((callP 3 (cb_is_integer []) (aCons (sD (rVar 2)) (aCons (sD (rCon (.int 0))) (aCons (sD (rCon (.int 9999))) aNil)))) ρ)))
    (sq (fRaise 4)
  Fl.nx)
    Fl.nx)
  (sq (fRet (sD (callP 3 (cb_raised []) (aCons (sD (rVar 0)) (aCons (sD (rVar 1)) (aCons (sD (rVar 2)) aNil))))))
  Fl.nx))))
  (entry false 0 [] ds))
def cb_law_cell_at_b1 : Rho → Fl := (sq (fAsg 2 (bin2 (opD .FloorDiv) (sD (rVar 2)) (sD (rCon (.int 1000003)))))
  Fl.nx)
def cb_law_cell_at : List D → List D → RF := fun l ds => outP ((sq (fIf (fun ρ => tru ((bin2 (cmpD .Lt) (sD (rVar 1)) (sD (vLenV 0))) ρ))
    (sq (fRet (sD (gIxv 0 (sD (rVar 1)))))
  Fl.nx)
    Fl.nx)
  (sq (fIf (fun ρ => tru ((bin2 (cmpD .Eq) (sD (rVar 0)) (sD (dLst aNil))) ρ))
    (sq (fRet (sD (rCon (.int 0))))
  Fl.nx)
    Fl.nx)
  (sq (fAsg 2 (gIxv 0 (sD (bin2 (opD .Mod) (sD (rVar 1)) (sD (vLenV 0))))))
  (sq (fFor (iR1 (aCons (sD (vBlt (bltD .min) (aCons (sD (bin2 (opD .FloorDiv) (sD (rVar 1)) (sD (vLenV 0)))) (aCons (sD (rCon (.int 60))) aNil)))) aNil)) (.n 3) cb_law_cell_at_b1)
  (sq (fRet (sD (bin2 (opD .Add) (sD (bin2 (opD .Add) (sD (bin2 (opD .Mult) (sD (gIxv 0 (sD (bin2 (opD .Mod) (sD (rVar 1)) (sD (vLenV 0)))))) (sD (rCon (.int 31))))) (sD (rVar 1)))) (sD (bin2 (opD .Mult) (sD (rVar 2)) (sD (rCon (.int 101))))))))
  Fl.nx)))))
  (entry false 2 [] ds))
def cb_law_mixed : List D → List D → RF := fun l ds => outP ((sq (fAsg 3 (bin2 (opD .Mod) (sD (bin2 (opD .Add) (sD (bin2 (opD .Add) (sD (bin2 (opD .Mult) (sD (callP 2 (cb_law_cell_at []) (aCons (sD (rVar 0)) (aCons (sD (rVar 1)) aNil)))) (sD (rCon (.int 1103515245))))) (sD (bin2 (opD .Mult) (sD (rCon (.int 7919))) (sD (rVar 1)))))) (sD (rCon (.int 12345))))) (sD (rCon (.int 2147483647)))))
  (sq (fRet (sD (bin2 (opD .Mod) (sD (bin2 (opD .Mod) (sD (bin2 (opD .Mod) (sD (bin2 (opD .Pow) (sD (rVar 3)) (sD (rCon (.int 5))))) (sD (rCon (.int 2147483647))))) (sD (rCon (.int 999983))))) (sD (rVar 2)))))
  Fl.nx))
  (entry false 1 [] ds))
def cb_law_draw : List D → List D → RF := fun l ds => outI ((sq (fApp 1 (sD (rCon (.int 0))))
  (sq (fRet (sD (callP 3 (cb_law_mixed []) (aCons (sD (rVar 0)) (aCons (sD (vLenV 1)) (aCons (sD (rVar 2)) aNil))))))
  Fl.nx))
  (entry true 0 l ds))
def cb_law_same_number : List D → List D → RF := fun l ds => outP ((sq (fRet (sD (vAnd (vIsi .int (sD (rVar 0))) (vAnd (vNot (vIsi .bool (sD (rVar 0)))) (bin2 (cmpD .Eq) (sD (rVar 0)) (sD (rVar 1)))))))
  Fl.nx)
  (entry false 0 [] ds))
def cb_law_pick : List D → List D → RF := fun l ds => outI ((sq (fRet (sD (gIxv 2 (sD (callI 3 cb_law_draw 1 (sD (rVar 0)) (aCons (sD (vLenV 2)) aNil))))))
  Fl.nx)
  (entry true 0 l ds))
def cb_law_some_ring_e1 : Rho → R D := (sD (callI 3 cb_law_draw 1 (sD (rVar 0)) (aCons (sD (rVar 3)) aNil)))
def cb_law_some_ring : List D → List D → RF := fun l ds => outI ((sq (fAsg 2 (dLst (aCons (sD (dTup (aCons (sD (rCon (.int 2))) (aCons (sD (rCon (.int 1))) aNil)))) (aCons (sD (dTup (aCons (sD (rCon (.int 2))) (aCons (sD (rCon (.int 2))) aNil)))) (aCons (sD (dTup (aCons (sD (rCon (.int 2))) (aCons (sD (rCon (.int 3))) aNil)))) (aCons (sD (dTup (aCons (sD (rCon (.int 2))) (aCons (sD (rCon (.int 4))) aNil)))) (aCons (sD (dTup (aCons (sD (rCon (.int 2))) (aCons (sD (rCon (.int 5))) aNil)))) (aCons (sD (dTup (aCons (sD (rCon (.int 3))) (aCons (sD (rCon (.int 1))) aNil)))) (aCons (sD (dTup (aCons (sD (rCon (.int 3))) (aCons (sD (rCon (.int 2))) aNil)))) (aCons (sD (dTup (aCons (sD (rCon (.int 3))) (aCons (sD (rCon (.int 3))) aNil)))) (aCons (sD (dTup (aCons (sD (rCon (.int 5))) (aCons (sD (rCon (.int 1))) aNil)))) (aCons (sD (dTup (aCons (sD (rCon (.int 5))) (aCons (sD (rCon (.int 2))) aNil)))) (aCons (sD (dTup (aCons (sD (rCon (.int 7))) (aCons (sD (rCon (.int 1))) aNil)))) (aCons (sD (dTup (aCons (sD (rCon (.int 11))) (aCons (sD (rCon (.int 1))) aNil)))) aNil))))))))))))))
  (sq (fAsgT (.t2 3 4) (sD (callI 3 cb_law_pick 1 (sD (rVar 0)) (aCons (sD (rVar 2)) aNil))))
  (sq (fRet (sD (dTup (aCons (sD (rVar 3)) (aCons (sD (vBlt (bltD .tuple) (aCons (sD (vLc (iR1 (aCons (sD (rVar 4)) aNil)) (.n 5) cYes cb_law_some_ring_e1 [5])) aNil))) aNil)))))
  Fl.nx)))
  (entry true 4 l ds))
def cb_law_size_here_b1 : Rho → Fl := (sq (fAsg 1 (bin2 (opD .Mult) (sD (rVar 1)) (sD (gIxv 0 (sD (rCon (.int 0)))))))
  Fl.nx)
def cb_law_size_here : List D → List D → RF := fun l ds => outP ((sq (fAsg 1 (rCon (.int 1)))
  (sq (fFor (iSeq (sD (gIxv 0 (sD (rCon (.int 1)))))) (.n 2) cb_law_size_here_b1)
  (sq (fRet (sD (rVar 1)))
  Fl.nx)))
  (entry false 2 [] ds))
def cb_law_coefs_b1 : Rho → Fl := (sq (fApp 2 (sD (bin2 (opD .Mod) (sD (rVar 1)) (sD (gIxv 0 (sD (rCon (.int 0))))))))
  (sq (fAsg 1 (bin2 (opD .FloorDiv) (sD (rVar 1)) (sD (gIxv 0 (sD (rCon (.int 0)))))))
  Fl.nx))
def cb_law_coefs : List D → List D → RF := fun l ds => outP ((sq (fAsg 2 (dLst aNil))
  (sq (fFor (iSeq (sD (gIxv 0 (sD (rCon (.int 1)))))) (.n 3) cb_law_coefs_b1)
  (sq (fRet (sD (rVar 2)))
  Fl.nx)))
  (entry false 2 [] ds))
def cb_law_code_b1 : Rho → Fl := (sq (fAsg 2 (bin2 (opD .Add) (sD (bin2 (opD .Mult) (sD (rVar 2)) (sD (gIxv 0 (sD (rCon (.int 0))))))) (sD (bin2 (opD .Mod) (sD (rVar 3)) (sD (gIxv 0 (sD (rCon (.int 0)))))))))
  Fl.nx)
def cb_law_code : List D → List D → RF := fun l ds => outP ((sq (fAsg 2 (rCon (.int 0)))
  (sq (fFor (iSeq (sD (vRev (sD (rVar 1))))) (.n 3) cb_law_code_b1)
  (sq (fRet (sD (rVar 2)))
  Fl.nx)))
  (entry false 2 [] ds))
def cb_law_sum_here_e1 : Rho → R D := (sD (bin2 (opD .Add) (sD (rVar 3)) (sD (rVar 4))))
def cb_law_sum_here : List D → List D → RF := fun l ds => outP ((sq (fRet (sD (callP 2 (cb_law_code []) (aCons (sD (rVar 0)) (aCons (sD (vLc (iZipD (aCons (sD (callP 2 (cb_law_coefs []) (aCons (sD (rVar 0)) (aCons (sD (rVar 1)) aNil)))) (aCons (sD (callP 2 (cb_law_coefs []) (aCons (sD (rVar 0)) (aCons (sD (rVar 2)) aNil)))) aNil))) (.t2 3 4) cYes cb_law_sum_here_e1 [3, 4])) aNil)))))
  Fl.nx)
  (entry false 2 [] ds))
def cb_law_product_here_e1 : Rho → R D := (sD (bin2 (opD .Mod) (sD (bin2 (opD .Sub) (sD (rVar 7)) (sD (bin2 (opD .Mult) (sD (rVar 6)) (sD (rVar 9)))))) (sD (gIxv 0 (sD (rCon (.int 0)))))))
def cb_law_product_here_e2 : Rho → R D := (sD (bin2 (opD .Mod) (sD (bin2 (opD .Add) (sD (rVar 7)) (sD (bin2 (opD .Mult) (sD (rVar 5)) (sD (rVar 8)))))) (sD (gIxv 0 (sD (rCon (.int 0)))))))
def cb_law_product_here_b3 : Rho → Fl := (sq (fAsg 3 (vLc (iZipD (aCons (sD (rVar 3)) (aCons (sD (rVar 4)) aNil))) (.t2 7 8) cYes cb_law_product_here_e2 [7, 8]))
  (sq (fAsg 6 (gIxv 4 (sD (vNeg (sD (rCon (.int 1)))))))
  (sq (fAsg 4 (vLc (iZipD (aCons (sD (bin2 (opD .Add) (sD (dLst (aCons (sD (rCon (.int 0))) aNil))) (sD (vSl (sD (rVar 4)) oNone (oSome (sD (vNeg (sD (rCon (.int 1)))))))))) (aCons (sD (gIxv 0 (sD (rCon (.int 1))))) aNil))) (.t2 7 9) cYes cb_law_product_here_e1 [7, 9]))
  Fl.nx)))
def cb_law_product_here_e4 : Rho → R D := (sD (rCon (.int 0)))
def cb_law_product_here : List D → List D → RF := fun l ds => outP ((sq (fAsg 3 (vLc (iSeq (sD (gIxv 0 (sD (rCon (.int 1)))))) (.n 7) cYes cb_law_product_here_e4 [7]))
  (sq (fAsg 4 (callP 2 (cb_law_coefs []) (aCons (sD (rVar 0)) (aCons (sD (rVar 1)) aNil))))
  (sq (fFor (iSeq (sD (callP 2 (cb_law_coefs []) (aCons (sD (rVar 0)) (aCons (sD (rVar 2)) aNil))))) (.n 5) cb_law_product_here_b3)
  (sq (fRet (sD (callP 2 (cb_law_code []) (aCons (sD (rVar 0)) (aCons (sD (rVar 3)) aNil)))))
  Fl.nx))))
  (entry false 7 [] ds))
def cb_law_k01_e1 : Rho → R D := (sD (callP 1 (cb_is_ring []) (aCons (sD (rVar 11)) aNil)))
def cb_law_k01_b2 : Rho → Fl := (sq (fAsg 8 (callP 3 (cb_law_product_here []) (aCons (sD (rVar 2)) (aCons (sD (rVar 8)) (aCons (sD (rVar 4)) aNil)))))
  Fl.nx)
def cb_law_k01 : List D → List D → RF := fun l ds => outP ((sq (fAsg 1 (dLst aNil))
  (sq (fAsg 2 (callI 2 cb_law_some_ring 1 (sD (rVar 0)) aNil))
  (sq (fAsg 3 (callP 1 (cb_law_size_here []) (aCons (sD (rVar 2)) aNil)))
  (sq (fIf (fOr (fun ρ => tru ((bin2 (cmpD .IsNot) (sD (callP 1 (cb_is_ring []) (aCons (sD (rVar 2)) aNil))) (sD (rCon (.bool true)))) ρ)) (fNot (fun ρ => tru ((callP 2 (cb_law_same_number []) (aCons (sD (callP 1 (cb_size []) (aCons (sD (rVar 2)) aNil))) (aCons (sD (rVar 3)) aNil))) ρ))))
    (sq (fRet (sD (rCon (.bool false))))
  Fl.nx)
    Fl.nx)
  (sq (fPar3 4 5 6 (callI 3 cb_law_draw 1 (sD (rVar 0)) (aCons (sD (rVar 3)) aNil)) (callI 3 cb_law_draw 1 (sD (rVar 0)) (aCons (sD (rVar 3)) aNil)) (callI 3 cb_law_draw 1 (sD (rVar 0)) (aCons (sD (rVar 3)) aNil)))
  (sq (fIf (fOr (fun ρ => tru ((bin2 (cmpD .NotEq) (sD (callP 3 (cb_add []) (aCons (sD (rVar 2)) (aCons (sD (rVar 4)) (aCons (sD (rVar 5)) aNil))))) (sD (callP 3 (cb_law_sum_here []) (aCons (sD (rVar 2)) (aCons (sD (rVar 4)) (aCons (sD (rVar 5)) aNil)))))) ρ)) (fun ρ => tru ((bin2 (cmpD .NotEq) (sD (callP 3 (cb_multiply []) (aCons (sD (rVar 2)) (aCons (sD (rVar 4)) (aCons (sD (rVar 5)) aNil))))) (sD (callP 3 (cb_law_product_here []) (aCons (sD (rVar 2)) (aCons (sD (rVar 4)) (aCons (sD (rVar 5)) aNil)))))) ρ)))
    (sq (fRet (sD (rCon (.bool false))))
  Fl.nx)
    Fl.nx)
  (sq (fIf (fOr (fun ρ => tru ((bin2 (cmpD .NotEq) (sD (callP 3 (cb_add []) (aCons (sD (rVar 2)) (aCons (sD (rVar 4)) (aCons (sD (callP 2 (cb_negative []) (aCons (sD (rVar 2)) (aCons (sD (rVar 4)) aNil)))) aNil))))) (sD (rCon (.int 0)))) ρ)) (fOr (fun ρ => tru ((bin2 (cmpD .NotEq) (sD (callP 3 (cb_multiply []) (aCons (sD (rVar 2)) (aCons (sD (rVar 4)) (aCons (sD (rVar 5)) aNil))))) (sD (callP 3 (cb_multiply []) (aCons (sD (rVar 2)) (aCons (sD (rVar 5)) (aCons (sD (rVar 4)) aNil)))))) ρ)) (fun ρ => tru ((bin2 (cmpD .NotEq) (sD (callP 3 (cb_multiply []) (aCons (sD (rVar 2)) (aCons (sD (rVar 4)) (aCons (sD (rCon (.int 1))) aNil))))) (sD (rVar 4))) ρ))))
    (sq (fRet (sD (rCon (.bool false))))
  Fl.nx)
    Fl.nx)
  (sq (fIf (fun ρ => tru ((bin2 (cmpD .NotEq) (sD (callP 3 (cb_multiply []) (aCons (sD (rVar 2)) (aCons (sD (rVar 4)) (aCons (sD (callP 3 (cb_add []) (aCons (sD (rVar 2)) (aCons (sD (rVar 5)) (aCons (sD (rVar 6)) aNil))))) aNil))))) (sD (callP 3 (cb_add []) (aCons (sD (rVar 2)) (aCons (sD (callP 3 (cb_multiply []) (aCons (sD (rVar 2)) (aCons (sD (rVar 4)) (aCons (sD (rVar 5)) aNil))))) (aCons (sD (callP 3 (cb_multiply []) (aCons (sD (rVar 2)) (aCons (sD (rVar 4)) (aCons (sD (rVar 6)) aNil))))) aNil)))))) ρ))
    (sq (fRet (sD (rCon (.bool false))))
  Fl.nx)
    Fl.nx)
  (sq (fIf (fun ρ => tru ((bin2 (cmpD .NotEq) (sD (callP 3 (cb_multiply []) (aCons (sD (rVar 2)) (aCons (sD (callP 3 (cb_multiply []) (aCons (sD (rVar 2)) (aCons (sD (rVar 4)) (aCons (sD (rVar 5)) aNil))))) (aCons (sD (rVar 6)) aNil))))) (sD (callP 3 (cb_multiply []) (aCons (sD (rVar 2)) (aCons (sD (rVar 4)) (aCons (sD (callP 3 (cb_multiply []) (aCons (sD (rVar 2)) (aCons (sD (rVar 5)) (aCons (sD (rVar 6)) aNil))))) aNil)))))) ρ))
    (sq (fRet (sD (rCon (.bool false))))
  Fl.nx)
    Fl.nx)
  (sq (fAsg 7 (callI 3 cb_law_draw 1 (sD (rVar 0)) (aCons (sD (rCon (.int 12))) aNil)))
  (sq (fAsg 8 (rCon (.int 1)))
  (sq (fFor (iR1 (aCons (sD (rVar 7)) aNil)) (.n 9) cb_law_k01_b2)
  (sq (fIf (fOr (fun ρ => tru ((bin2 (cmpD .NotEq) (sD (callP 3 (cb_power []) (aCons (sD (rVar 2)) (aCons (sD (rVar 4)) (aCons (sD (rVar 7)) aNil))))) (sD (rVar 8))) ρ)) (fun ρ => tru ((bin2 (cmpD .NotEq) (sD (callP 3 (cb_power []) (aCons (sD (rVar 2)) (aCons (sD (rVar 4)) (aCons (sD (rCon (.int 0))) aNil))))) (sD (rCon (.int 1)))) ρ)))
    (sq (fRet (sD (rCon (.bool false))))
  Fl.nx)
    Fl.nx)
  (sq (fIf (fun ρ => tru ((bin2 (cmpD .NotEq) (sD (callP 3 (cb_power []) (aCons (sD (rVar 2)) (aCons (sD (rVar 4)) (aCons (sD (bin2 (opD .Add) (sD (rVar 7)) (sD (rCon (.int 40))))) aNil))))) (sD (callP 3 (cb_multiply []) (aCons (sD (rVar 2)) (aCons (sD (rVar 8)) (aCons (sD (callP 3 (cb_power []) (aCons (sD (rVar 2)) (aCons (sD (rVar 4)) (aCons (sD (rCon (.int 40))) aNil))))) aNil)))))) ρ))
    (sq (fRet (sD (rCon (.bool false))))
  Fl.nx)
    Fl.nx)
  (sq (fAsg 10 (dLst (aCons (sD (rCon .none)) (aCons (sD (rCon (.int 5))) (aCons (sD (dTup aNil)) (aCons (sD (dTup (aCons (sD (rCon (.int 2))) aNil))) (aCons (sD (dTup (aCons (sD (rCon (.int 2))) (aCons (sD (dTup aNil)) aNil)))) (aCons (sD (dTup (aCons (sD (rCon (.int 4))) (aCons (sD (dTup (aCons (sD (rCon (.int 1))) aNil))) aNil)))) (aCons (sD (dTup (aCons (sD (rCon (.int 1))) (aCons (sD (dTup (aCons (sD (rCon (.int 0))) aNil))) aNil)))) (aCons (sD (dTup (aCons (sD (rCon (.int 2))) (aCons (sD (dLst (aCons (sD (rCon (.int 1))) aNil))) aNil)))) (aCons (sD (dLst (aCons (sD (rCon (.int 2))) (aCons (sD (dTup (aCons (sD (rCon (.int 1))) aNil))) aNil)))) (aCons (sD (dTup (aCons (sD (rCon (.int 2))) (aCons (sD (dTup (aCons (sD (rCon (.int 2))) aNil))) aNil)))) (aCons (sD (dTup (aCons (sD (rCon (.int 2))) (aCons (sD (dTup (aCons (sD (rCon (.bool true))) aNil))) aNil)))) aNil)))))))))))))
  (sq (fExt 10 (sD (dLst (aCons (sD (dTup (aCons (sD (rCon (.int 2))) (aCons (sD (dTup (aCons (sD (rCon (.str "1"))) aNil))) aNil)))) (aCons (sD (dTup (aCons (sD (rCon (.bool true))) (aCons (sD (dTup (aCons (sD (rCon (.int 0))) aNil))) aNil)))) (aCons (sD (dTup (aCons (sD (rCon (.int 2))) (aCons (sD (bin2 (opD .Mult) (sD (dTup (aCons (sD (rCon (.int 1))) aNil))) (sD (rCon (.int 6))))) aNil)))) (aCons (sD (dTup (aCons (sD (rCon (.int 3))) (aCons (sD (bin2 (opD .Mult) (sD (dTup (aCons (sD (rCon (.int 1))) aNil))) (sD (rCon (.int 4))))) aNil)))) (aCons (sD (dTup (aCons (sD (rCon (.int 7))) (aCons (sD (dTup (aCons (sD (rCon (.int 1))) (aCons (sD (rCon (.int 1))) aNil)))) aNil)))) (aCons (sD (dTup (aCons (sD (rCon (.int 37))) (aCons (sD (dTup (aCons (sD (rCon (.int 1))) aNil))) aNil)))) (aCons (sD (dTup (aCons (sD (bin2 (opD .Sub) (sD (rCon (.int 0))) (sD (rCon (.int 2))))) (aCons (sD (dTup (aCons (sD (rCon (.int 0))) aNil))) aNil)))) aNil))))))))))
  (sq (fExt 10 (sD (dLst (aCons (sD (dTup (aCons (sD (rCon (.int 2))) (aCons (sD (dTup (aCons (sD (rCon (.int 1))) (aCons (sD (rCon .none)) aNil)))) aNil)))) (aCons (sD (dTup (aCons (sD (rCon (.int 9))) (aCons (sD (dTup (aCons (sD (rCon (.int 1))) aNil))) aNil)))) (aCons (sD (dTup (aCons (sD (rCon (.int 2))) (aCons (sD (dTup (aCons (sD (bin2 (opD .Sub) (sD (rCon (.int 0))) (sD (rCon (.int 1))))) aNil))) aNil)))) aNil))))))
  (sq (fIf (fOr (fun ρ => tru ((bin2 (cmpD .IsNot) (sD (callP 1 (cb_is_ring []) (aCons (sD (dTup (aCons (sD (rCon (.int 2))) (aCons (sD (bin2 (opD .Mult) (sD (dTup (aCons (sD (rCon (.int 1))) aNil))) (sD (rCon (.int 5))))) aNil)))) aNil))) (sD (rCon (.bool true)))) ρ)) (fOr (fun ρ => tru ((bin2 (cmpD .IsNot) (sD (callP 1 (cb_is_ring []) (aCons (sD (dTup (aCons (sD (rCon (.int 3))) (aCons (sD (bin2 (opD .Mult) (sD (dTup (aCons (sD (rCon (.int 2))) aNil))) (sD (rCon (.int 3))))) aNil)))) aNil))) (sD (rCon (.bool true)))) ρ)) (fun ρ => tru ((bin2 (cmpD .NotEq) (sD (callP 1 (cb_size []) (aCons (sD (dTup (aCons (sD (rCon (.int 2))) (aCons (sD (bin2 (opD .Mult) (sD (dTup (aCons (sD (rCon (.int 0))) aNil))) (sD (rCon (.int 5))))) aNil)))) aNil))) (sD (rCon (.int 32)))) ρ))))
    (sq (fRet (sD (rCon (.bool false))))
  Fl.nx)
    Fl.nx)
  (sq (fRet (sD (vAnd (bin2 (cmpD .Eq) (sD (vLc (iSeq (sD (rVar 10))) (.n 11) cYes cb_law_k01_e1 [11])) (sD (bin2 (opD .Mult) (sD (dLst (aCons (sD (rCon (.bool false))) aNil))) (sD (vLenV 10))))) (bin2 (cmpD .Is) (sD (callP 1 (cb_is_ring []) (aCons (sD (dTup (aCons (sD (rCon (.int 31))) (aCons (sD (dTup (aCons (sD (rCon (.int 30))) aNil))) aNil)))) aNil))) (sD (rCon (.bool true)))))))
  Fl.nx)))))))))))))))))))
  (entry false 11 [] ds))
end PF
end
section
namespace Pm
/-! rings of whole numbers in p^n: vectors over Z, multiplying by the unknown -/
abbrev V := Nat → Int
section
variable (n : Nat) (f : V)
/-- times the unknown: shift, the top one goes to - f -/
def S (u : V) : V := fun i => if i < n then (if i = 0 then 0 else u (i - 1)) - u (n - 1) * f i else 0
/-- a polynomial of S, at u -/
def P : List Int → V → V
  | [], _ => fun _ => 0
  | c :: cs, u => fun i => c * u i + P cs (S n f u) i
def Sk : Nat → V → V
  | 0, u => u
  | k + 1, u => Sk k (S n f u)
end
def ek (k : Nat) : V := fun i => if i = k then 1 else 0
def vec (l : List Int) : V := fun i => l.getD i 0
section
variable {n : Nat} {f : V}
theorem S_lin (a b : Int) (u v : V) : S n f (fun i => a * u i + b * v i) = fun i => a * S n f u i + b * S n f v i := by
  funext i
  unfold S
  split
  · split <;> grind
  · grind
theorem P_lin (a b : Int) : ∀ (cs : List Int) (u v : V), P n f cs (fun i => a * u i + b * v i) = fun i => a * P n f cs u i + b * P n f cs v i
  | [], u, v => by funext i; simp [P]
  | c :: cs, u, v => by
    funext i
    unfold P
    rw [S_lin, P_lin a b cs]
    grind
theorem P_S : ∀ (cs : List Int) (u : V), P n f cs (S n f u) = S n f (P n f cs u)
  | [], u => by
    funext i
    unfold P S
    simp
  | c :: cs, u => by
    have e : P n f (c :: cs) u = fun i => c * u i + 1 * P n f cs (S n f u) i := by
      funext i
      show c * u i + P n f cs (S n f u) i = _
      grind
    rw [e, S_lin]
    funext i
    show c * S n f u i + P n f cs (S n f (S n f u)) i = _
    rw [P_S cs (S n f u)]
    grind
theorem P_comm : ∀ (cs ds : List Int) (u : V), P n f cs (P n f ds u) = P n f ds (P n f cs u)
  | [], ds, u => by
    have e : P n f ([] : List Int) u = fun i => (0 : Int) * u i + 0 * u i := by funext i; simp [P]
    rw [e, P_lin]
    funext i
    simp [P]
  | c :: cs, ds, u => by
    have e : P n f (c :: cs) u = fun i => c * u i + 1 * P n f cs (S n f u) i := by
      funext i
      show c * u i + P n f cs (S n f u) i = _
      grind
    rw [e, P_lin]
    funext i
    show c * P n f ds u i + P n f cs (S n f (P n f ds u)) i = _
    rw [← P_S, P_comm cs ds]
    grind
theorem S_ek {k : Nat} (h : k + 1 < n) : S n f (ek k) = ek (k + 1) := by
  funext i
  unfold S ek
  have e : ¬ (n - 1 = k) := by omega
  simp only [e, if_false]
  by_cases h1 : i = k + 1
  · subst h1
    simp [h]
  · by_cases h2 : i < n
    · by_cases h3 : i = 0
      · subst h3
        simp [h1]
      · have : ¬ i - 1 = k := by omega
        simp [h1, h2, h3, this]
    · simp [h1, h2]
theorem P_ek : ∀ (cs : List Int) (k : Nat), k + cs.length ≤ n → P n f cs (ek k) = fun i => if k ≤ i then cs.getD (i - k) 0 else 0
  | [], k, h => by
    funext i
    simp [P]
  | c :: cs, k, h => by
    funext i
    show c * ek k i + P n f cs (S n f (ek k)) i = _
    cases hc : cs with
    | nil =>
      simp only [P, ek]
      by_cases h1 : i = k
      · subst h1; simp
      · by_cases h2 : k ≤ i
        · have : 0 < i - k := by omega
          obtain ⟨j, hj⟩ : ∃ j, i - k = j + 1 := ⟨i - k - 1, by omega⟩
          simp [h1, h2, hj]
        · simp [h1, h2]
    | cons d ds =>
      rw [← hc]
      have hl : 0 < cs.length := by rw [hc]; simp
      simp only [List.length_cons] at h
      rw [S_ek (by omega), P_ek cs (k + 1) (by omega)]
      simp only [ek]
      by_cases h1 : i = k
      · subst h1
        have : ¬ (i + 1 ≤ i) := by omega
        simp [this]
      · by_cases h2 : k ≤ i
        · obtain ⟨j, hj⟩ : ∃ j, i - k = j + 1 := ⟨i - k - 1, by omega⟩
          have h3 : k + 1 ≤ i := by omega
          have h4 : i - (k + 1) = j := by omega
          simp [h1, h2, h3, h4, hj]
        · have : ¬ (k + 1 ≤ i) := by omega
          simp [h1, h2, this]
theorem P_e0 (cs : List Int) (h : cs.length ≤ n) : P n f cs (ek 0) = vec cs := by
  rw [P_ek cs 0 (by omega)]
  funext i
  simp [vec]
theorem P_app : ∀ (cs ds : List Int) (u : V), P n f (cs ++ ds) u = fun i => P n f cs u i + P n f ds (Sk n f cs.length u) i
  | [], ds, u => by funext i; simp [P, Sk]
  | c :: cs, ds, u => by
    funext i
    show c * u i + P n f (cs ++ ds) (S n f u) i = c * u i + P n f cs (S n f u) i + P n f ds (Sk n f cs.length (S n f u)) i
    rw [P_app cs ds]
    grind
theorem P_set : ∀ (cs : List Int) (j : Nat) (c d : Int) (u : V), cs[j]? = some d → P n f (cs.set j (d + c)) u = fun i => P n f cs u i + c * Sk n f j u i
  | [], j, c, d, u, h => by simp at h
  | b :: cs, 0, c, d, u, h => by
    simp at h
    subst h
    funext i
    show (b + c) * u i + P n f cs (S n f u) i = b * u i + P n f cs (S n f u) i + c * u i
    grind
  | b :: cs, j + 1, c, d, u, h => by
    simp at h
    funext i
    show b * u i + P n f (cs.set j (d + c)) (S n f u) i = b * u i + P n f cs (S n f u) i + c * Sk n f j (S n f u) i
    rw [P_set cs j c d _ h]
    grind
theorem Sk_S : ∀ (k : Nat) (u : V), Sk n f k (S n f u) = S n f (Sk n f k u)
  | 0, u => rfl
  | k + 1, u => Sk_S k (S n f u)
theorem Sk_succ (k : Nat) (u : V) : Sk n f (k + 1) u = S n f (Sk n f k u) := Sk_S k u
theorem Sk_add : ∀ (j k : Nat) (u : V), Sk n f (j + k) u = Sk n f j (Sk n f k u)
  | 0, k, u => by simp [Sk]
  | j + 1, k, u => by
    rw [show j + 1 + k = (j + k) + 1 by omega, Sk_succ, Sk_add j k, Sk_succ]
theorem Sk_ek : ∀ (k j : Nat), j + k < n → Sk n f k (ek j) = ek (j + k)
  | 0, j, h => rfl
  | k + 1, j, h => by
    show Sk n f k (S n f (ek j)) = _
    rw [S_ek (by omega), Sk_ek k (j + 1) (by omega)]
    congr 1
    omega
/-- the n-th power of the unknown is - f -/
theorem Sn_e0 (h : 0 < n) : Sk n f n (ek 0) = fun i => if i < n then - f i else 0 := by
  obtain ⟨m, rfl⟩ : ∃ m, n = m + 1 := ⟨n - 1, by omega⟩
  rw [Sk_succ, Sk_ek m 0 (by omega)]
  funext i
  unfold S ek
  have e : m + 1 - 1 = 0 + m := by omega
  simp only [e, if_true]
  by_cases h1 : i < m + 1
  · by_cases h2 : i = 0
    · subst h2; simp
    · have : ¬ i - 1 = 0 + m := by omega
      simp only [h1, h2, this, if_true, if_false]
      omega
  · simp [h1]
theorem Sk_lin (a b : Int) : ∀ (k : Nat) (u v : V), Sk n f k (fun i => a * u i + b * v i) = fun i => a * Sk n f k u i + b * Sk n f k v i
  | 0, u, v => rfl
  | k + 1, u, v => by
    show Sk n f k (S n f _) = _
    rw [S_lin, Sk_lin a b k]
    rfl
theorem Sk_P : ∀ (k : Nat) (cs : List Int) (u : V), Sk n f k (P n f cs u) = P n f cs (Sk n f k u)
  | 0, cs, u => rfl
  | k + 1, cs, u => by
    rw [Sk_succ, Sk_P k cs u, Sk_succ, P_S]
/-- nothing stands at n and behind -/
def Low (n : Nat) (u : V) : Prop := ∀ i, n ≤ i → u i = 0
theorem S_low (u : V) : Low n (S n f u) := fun i h => by
  unfold S
  have : ¬ i < n := by omega
  simp [this]
theorem P_low : ∀ (cs : List Int) (u : V), Low n u → Low n (P n f cs u)
  | [], u, h => fun i hi => rfl
  | c :: cs, u, h => fun i hi => by
    show c * u i + P n f cs (S n f u) i = 0
    rw [h i hi, P_low cs _ (S_low u) i hi]
    simp
end
end Pm
end
section
namespace Pm
/-! modulo p -/
def Cg (p : Int) (u v : V) : Prop := ∀ i, p ∣ u i - v i
section
variable {p : Int} {n : Nat} {f : V}
theorem Cg.refl (u : V) : Cg p u u := fun i => by simp
theorem Cg.symm {u v : V} (h : Cg p u v) : Cg p v u := fun i => by
  obtain ⟨k, e⟩ := h i
  exact ⟨-k, by grind⟩
theorem Cg.trans {u v w : V} (h : Cg p u v) (g : Cg p v w) : Cg p u w := fun i => by
  obtain ⟨k, e⟩ := h i
  obtain ⟨l, e'⟩ := g i
  exact ⟨k + l, by grind⟩
theorem Cg.of_eq {u v : V} (h : u = v) : Cg p u v := h ▸ Cg.refl u
theorem Cg.S {u v : V} (h : Cg p u v) : Cg p (S n f u) (S n f v) := fun i => by
  unfold Pm.S
  obtain ⟨k, e⟩ := h (i - 1)
  obtain ⟨l, e'⟩ := h (n - 1)
  split
  · split
    · exact ⟨-(l * f i), by grind⟩
    · exact ⟨k - l * f i, by grind⟩
  · exact ⟨0, by grind⟩
theorem Cg.P : ∀ {cs ds : List Int} {u v : V}, cs.length = ds.length → Cg p (vec cs) (vec ds) → Cg p u v → Cg p (P n f cs u) (P n f ds v)
  | [], [], u, v, hl, hc, h => fun i => ⟨0, by simp [Pm.P]⟩
  | c :: cs, d :: ds, u, v, hl, hc, h => fun i => by
    have ht : Cg p (vec cs) (vec ds) := fun j => hc (j + 1)
    have h0 : p ∣ c - d := hc 0
    obtain ⟨k, e⟩ := h0
    obtain ⟨l, e'⟩ := h i
    obtain ⟨m, e2⟩ := Cg.P (cs := cs) (ds := ds) (by simpa using hl) ht (Cg.S (n := n) (f := f) h) i
    show p ∣ (c * u i + Pm.P n f cs (Pm.S n f u) i) - (d * v i + Pm.P n f ds (Pm.S n f v) i)
    exact ⟨k * u i + d * l + m, by grind⟩
theorem Cg.lin (a b : Int) {u v u' v' : V} (h : Cg p u u') (g : Cg p v v') : Cg p (fun i => a * u i + b * v i) (fun i => a * u' i + b * v' i) := fun i => by
  obtain ⟨k, e⟩ := h i
  obtain ⟨l, e'⟩ := g i
  exact ⟨a * k + b * l, by grind⟩
end
/-! digits -/
def dig (p : Int) : Nat → Int → List Int
  | 0, _ => []
  | n + 1, x => x % p :: dig p n (x / p)
def cod (p : Int) : List Int → Int
  | [] => 0
  | c :: cs => cod p cs * p + c % p
section
variable {p : Int}
theorem dig_len : ∀ (n : Nat) (x : Int), (dig p n x).length = n
  | 0, _ => rfl
  | n + 1, x => congrArg Nat.succ (dig_len n (x / p))
theorem cod_range (hp : 0 < p) : ∀ l : List Int, 0 ≤ cod p l ∧ cod p l < p ^ l.length
  | [] => by simp [cod]
  | c :: cs => by
    obtain ⟨h1, h2⟩ := cod_range hp cs
    have h3 := Int.emod_nonneg c (Int.ne_of_gt hp)
    have h4 := Int.emod_lt_of_pos c hp
    unfold cod
    refine ⟨by have := Int.mul_nonneg h1 (Int.le_of_lt hp); omega, ?_⟩
    rw [List.length_cons, Int.pow_succ]
    have h5 : (cod p cs + 1) * p ≤ p ^ cs.length * p := Int.mul_le_mul_of_nonneg_right (by omega) (Int.le_of_lt hp)
    have h6 : (cod p cs + 1) * p = cod p cs * p + p := by grind
    omega
theorem dig_cod (hp : 0 < p) : ∀ l : List Int, dig p l.length (cod p l) = l.map (· % p)
  | [] => rfl
  | c :: cs => by
    have h3 := Int.emod_nonneg c (Int.ne_of_gt hp)
    have h4 := Int.emod_lt_of_pos c hp
    show (cod p cs * p + c % p) % p :: dig p cs.length ((cod p cs * p + c % p) / p) = c % p :: cs.map (· % p)
    have e1 : (cod p cs * p + c % p) % p = c % p := by
      rw [Int.add_comm, Int.add_mul_emod_self_right, Int.emod_emod_of_dvd _ (Int.dvd_refl p)]
    have e2 : (cod p cs * p + c % p) / p = cod p cs := by
      rw [Int.add_comm, Int.add_mul_ediv_right _ _ (Int.ne_of_gt hp), Int.ediv_eq_zero_of_lt h3 h4, Int.zero_add]
    rw [e1, e2, dig_cod hp cs]
theorem cod_dig (hp : 0 < p) : ∀ (n : Nat) (x : Int), 0 ≤ x → x < p ^ n → cod p (dig p n x) = x
  | 0, x, h0, h1 => by
    simp at h1
    show 0 = x
    omega
  | n + 1, x, h0, h1 => by
    show cod p (dig p n (x / p)) * p + x % p % p = x
    have e : x % p % p = x % p := Int.emod_emod_of_dvd _ (Int.dvd_refl p)
    have h2 : x / p < p ^ n := Int.ediv_lt_of_lt_mul hp (by rw [← Int.pow_succ]; exact h1)
    rw [cod_dig hp n (x / p) (Int.ediv_nonneg h0 (Int.le_of_lt hp)) h2, e]
    have := Int.mul_ediv_add_emod x p
    grind
theorem cod_cg : ∀ {l m : List Int}, l.length = m.length → Cg p (vec l) (vec m) → cod p l = cod p m
  | [], [], _, _ => rfl
  | c :: cs, d :: ds, hl, h => by
    have ht : Cg p (vec cs) (vec ds) := fun j => h (j + 1)
    have h0 : p ∣ c - d := h 0
    show cod p cs * p + c % p = cod p ds * p + d % p
    have e : c % p = d % p := Int.emod_eq_emod_iff_emod_sub_eq_zero.mpr (Int.emod_eq_zero_of_dvd h0)
    rw [cod_cg (by simpa using hl) ht, e]
theorem cg_mod : ∀ l : List Int, Cg p (vec (l.map (· % p))) (vec l)
  | [] => fun i => by simp [vec]
  | c :: cs => fun i => by
    cases i with
    | zero =>
      show p ∣ c % p - c
      exact ⟨-(c / p), by have := Int.mul_ediv_add_emod c p; grind⟩
    | succ i => exact cg_mod cs i
theorem cg_cod (hp : 0 < p) (l : List Int) : Cg p (vec (dig p l.length (cod p l))) (vec l) := by
  rw [dig_cod hp]
  exact cg_mod l
/-- elements with the same digits modulo p are the same -/
theorem dig_inj (hp : 0 < p) {n : Nat} {x y : Int} (hx : 0 ≤ x ∧ x < p ^ n) (hy : 0 ≤ y ∧ y < p ^ n) (h : Cg p (vec (dig p n x)) (vec (dig p n y))) : x = y := by
  rw [← cod_dig hp n x hx.1 hx.2, ← cod_dig hp n y hy.1 hy.2]
  exact cod_cg (by rw [dig_len, dig_len]) h
end
/-! the ring -/
def lst (n : Nat) (u : V) : List Int := (List.range n).map u
theorem lst_len (n : Nat) (u : V) : (lst n u).length = n := by simp [lst]
theorem vec_lst {n : Nat} {u : V} (h : Low n u) : vec (lst n u) = u := by
  funext i
  unfold vec lst
  by_cases hi : i < n
  · simp [List.getD_eq_getElem?_getD, hi]
  · rw [h i (by omega)]
    simp [List.getD_eq_getElem?_getD, hi]
theorem vec_low {l : List Int} : Low l.length (vec l) := fun i h => by
  simp [vec, List.getD_eq_getElem?_getD, h]
section
variable (p : Int) (f : List Int)
def fi (x : Int) : V := vec (dig p f.length x)
def mul (x y : Int) : Int := cod p (lst f.length (P f.length (vec f) (dig p f.length y) (fi p f x)))
def addL (l m : List Int) : List Int := List.zipWith (· + ·) l m
def add (x y : Int) : Int := cod p (addL (dig p f.length x) (dig p f.length y))
def neg (x : Int) : Int := cod p ((dig p f.length x).map fun c => 0 - c)
def El (x : Int) : Prop := 0 ≤ x ∧ x < p ^ f.length
end
section
variable {p : Int} {f : List Int}
theorem fi_low (x : Int) : Low f.length (fi p f x) := by
  have := vec_low (l := dig p f.length x)
  rwa [dig_len] at this
theorem mul_el (hp : 0 < p) (x y : Int) : El p f (mul p f x y) := by
  have := cod_range hp (lst f.length (P f.length (vec f) (dig p f.length y) (fi p f x)))
  rwa [lst_len] at this
theorem mul_fi (hp : 0 < p) (x y : Int) : Cg p (fi p f (mul p f x y)) (P f.length (vec f) (dig p f.length y) (fi p f x)) := by
  have := cg_cod hp (lst f.length (P f.length (vec f) (dig p f.length y) (fi p f x)))
  rw [lst_len, vec_lst (P_low _ _ (fi_low x))] at this
  exact this
theorem fi_P (x : Int) : fi p f x = P f.length (vec f) (dig p f.length x) (ek 0) := by
  rw [P_e0 _ (by rw [dig_len]; omega)]
  rfl
theorem inj (hp : 0 < p) {x y : Int} (hx : El p f x) (hy : El p f y) (h : Cg p (fi p f x) (fi p f y)) : x = y := dig_inj hp hx hy h
theorem mul_comm (hp : 0 < p) (x y : Int) : mul p f x y = mul p f y x := by
  refine inj hp (mul_el hp _ _) (mul_el hp _ _) ((mul_fi hp x y).trans (.trans (.of_eq ?_) (mul_fi hp y x).symm))
  rw [fi_P x, fi_P y, P_comm]
theorem cg_P (cs : List Int) {u v : V} (h : Cg p u v) : Cg p (P f.length (vec f) cs u) (P f.length (vec f) cs v) := Cg.P rfl (Cg.refl _) h
theorem mul_assoc (hp : 0 < p) (x y z : Int) : mul p f (mul p f x y) z = mul p f x (mul p f y z) := by
  rw [mul_comm hp x (mul p f y z)]
  refine inj hp (mul_el hp _ _) (mul_el hp _ _) ((mul_fi hp _ z).trans (.trans (cg_P _ (mul_fi hp x y)) (.trans (.of_eq ?_) ((mul_fi hp (mul p f y z) x).trans (cg_P _ (mul_fi hp y z))).symm)))
  rw [fi_P x, fi_P y, P_comm (dig p f.length y) (dig p f.length x), P_comm (dig p f.length z) (dig p f.length x)]
theorem vec_addL : ∀ {l m : List Int}, l.length = m.length → vec (addL l m) = fun i => 1 * vec l i + 1 * vec m i
  | [], [], _ => by funext i; simp [vec, addL]
  | c :: cs, d :: ds, h => by
    funext i
    cases i with
    | zero =>
      show c + d = 1 * c + 1 * d
      grind
    | succ i => exact congrFun (vec_addL (l := cs) (m := ds) (by simpa using h)) i
theorem add_len (x y : Int) : (addL (dig p f.length x) (dig p f.length y)).length = f.length := by simp [addL, dig_len]
theorem add_el (hp : 0 < p) (x y : Int) : El p f (add p f x y) := by
  have := cod_range hp (addL (dig p f.length x) (dig p f.length y))
  rwa [add_len] at this
theorem add_fi (hp : 0 < p) (x y : Int) : Cg p (fi p f (add p f x y)) (fun i => 1 * fi p f x i + 1 * fi p f y i) := by
  have := cg_cod hp (addL (dig p f.length x) (dig p f.length y))
  rw [add_len, vec_addL (by rw [dig_len, dig_len])] at this
  exact this
theorem neg_len (x : Int) : ((dig p f.length x).map fun c => 0 - c).length = f.length := by simp [dig_len]
theorem neg_el (hp : 0 < p) (x : Int) : El p f (neg p f x) := by
  have := cod_range hp ((dig p f.length x).map fun c => 0 - c)
  rwa [neg_len] at this
theorem vec_neg : ∀ l : List Int, vec (l.map fun c => 0 - c) = fun i => 0 - vec l i
  | [] => by funext i; simp [vec]
  | c :: cs => by
    funext i
    cases i with
    | zero => rfl
    | succ i => exact congrFun (vec_neg cs) i
theorem neg_fi (hp : 0 < p) (x : Int) : Cg p (fi p f (neg p f x)) (fun i => 0 - fi p f x i) := by
  have := cg_cod hp ((dig p f.length x).map fun c => 0 - c)
  rw [neg_len, vec_neg] at this
  exact this
theorem dig_zero : ∀ n : Nat, dig p n 0 = List.replicate n 0
  | 0 => rfl
  | n + 1 => by
    show 0 % p :: dig p n (0 / p) = 0 :: List.replicate n 0
    rw [Int.zero_emod, Int.zero_ediv, dig_zero n]
theorem fi_zero : fi p f 0 = fun _ => 0 := by
  funext i
  unfold fi vec
  rw [dig_zero, List.getD_eq_getElem?_getD, List.getElem?_replicate]
  split <;> rfl
theorem el_zero (hp : 0 < p) : El p f 0 := ⟨Int.le_refl 0, Int.pow_pos hp⟩
theorem add_neg (hp : 0 < p) (x : Int) : add p f x (neg p f x) = 0 := by
  refine inj hp (add_el hp _ _) (el_zero hp) ((add_fi hp _ _).trans ?_)
  rw [fi_zero]
  intro i
  obtain ⟨k, e⟩ := neg_fi (f := f) hp x i
  exact ⟨k, by grind⟩
theorem add_comm (hp : 0 < p) (x y : Int) : add p f x y = add p f y x := by
  refine inj hp (add_el hp _ _) (add_el hp _ _) ((add_fi hp x y).trans (.trans (.of_eq ?_) (add_fi hp y x).symm))
  funext i
  grind
theorem add_assoc (hp : 0 < p) (x y z : Int) : add p f (add p f x y) z = add p f x (add p f y z) := by
  refine inj hp (add_el hp _ _) (add_el hp _ _) ((add_fi hp _ z).trans (.trans (Cg.lin 1 1 (add_fi hp x y) (Cg.refl _)) (.trans (.of_eq ?_) ((add_fi hp x _).trans (Cg.lin 1 1 (Cg.refl _) (add_fi hp y z))).symm)))
  funext i
  grind
theorem mul_add (hp : 0 < p) (x y z : Int) : mul p f x (add p f y z) = add p f (mul p f x y) (mul p f x z) := by
  rw [mul_comm hp x (add p f y z)]
  refine inj hp (mul_el hp _ _) (add_el hp _ _) ((mul_fi hp _ x).trans (.trans (cg_P _ (add_fi hp y z)) (.trans (.of_eq ?_) ((add_fi hp _ _).trans (Cg.lin 1 1 (mul_fi hp x y) (mul_fi hp x z))).symm)))
  rw [P_lin, fi_P x, fi_P y, fi_P z, P_comm (dig p f.length x) (dig p f.length y), P_comm (dig p f.length x) (dig p f.length z)]
theorem dig_one (hp : 1 < p) (n : Nat) : dig p (n + 1) 1 = 1 :: List.replicate n 0 := by
  show 1 % p :: dig p n (1 / p) = _
  rw [Int.emod_eq_of_lt (by omega) hp, Int.ediv_eq_zero_of_lt (by omega) hp, dig_zero]
theorem P_zeros {n : Nat} {g : V} : ∀ (k : Nat) (u : V), P n g (List.replicate k 0) u = fun _ => 0
  | 0, u => rfl
  | k + 1, u => by
    funext i
    show 0 * u i + P n g (List.replicate k 0) (S n g u) i = 0
    rw [P_zeros k]
    simp
theorem mul_one (hp : 1 < p) (hn : 0 < f.length) {x : Int} (hx : El p f x) : mul p f x 1 = x := by
  have hp0 : 0 < p := by omega
  refine inj hp0 (mul_el hp0 _ _) hx ((mul_fi hp0 x 1).trans (.of_eq ?_))
  obtain ⟨m, e⟩ : ∃ m, f.length = m + 1 := ⟨f.length - 1, by omega⟩
  have e2 : dig p f.length 1 = 1 :: List.replicate m 0 := by rw [e]; exact dig_one hp m
  rw [e2]
  funext i
  show 1 * fi p f x i + P f.length (vec f) (List.replicate m 0) _ i = _
  rw [P_zeros]
  simp
theorem mul_zero (hp : 0 < p) (x : Int) : mul p f x 0 = 0 := by
  refine inj hp (mul_el hp _ _) (el_zero hp) ((mul_fi hp x 0).trans (.of_eq ?_))
  rw [dig_zero, P_zeros, fi_zero]
theorem add_zero (hp : 0 < p) {x : Int} (hx : El p f x) : add p f x 0 = x := by
  refine inj hp (add_el hp _ _) hx ((add_fi hp _ _).trans (.of_eq ?_))
  rw [fi_zero]
  funext i
  grind
/-! powers -/
def pw (p : Int) (f : List Int) (x : Int) : Nat → Int
  | 0 => 1
  | k + 1 => mul p f (pw p f x k) x
theorem el_one (hp : 1 < p) (hn : 0 < f.length) : El p f 1 := by
  refine ⟨by omega, ?_⟩
  obtain ⟨m, e⟩ : ∃ m, f.length = m + 1 := ⟨f.length - 1, by omega⟩
  rw [e, Int.pow_succ]
  have h1 : 0 < p ^ m := Int.pow_pos (by omega)
  have h2 : 1 * p ≤ p ^ m * p := Int.mul_le_mul_of_nonneg_right (by omega) (by omega)
  omega
theorem pw_el (hp : 1 < p) (hn : 0 < f.length) (x : Int) : ∀ k, El p f (pw p f x k)
  | 0 => el_one hp hn
  | k + 1 => mul_el (by omega) _ _
theorem one_mul (hp : 1 < p) (hn : 0 < f.length) {x : Int} (hx : El p f x) : mul p f 1 x = x := by rw [mul_comm (by omega), mul_one hp hn hx]
theorem pw_add (hp : 1 < p) (hn : 0 < f.length) (x : Int) (j : Nat) : ∀ k, pw p f x (j + k) = mul p f (pw p f x j) (pw p f x k)
  | 0 => (mul_one hp hn (pw_el hp hn x j)).symm
  | k + 1 => by
    show mul p f (pw p f x (j + k)) x = mul p f (pw p f x j) (mul p f (pw p f x k) x)
    rw [pw_add hp hn x j k, mul_assoc (by omega)]
theorem pw_mul (hp : 1 < p) (hn : 0 < f.length) (x : Int) (j : Nat) : ∀ k, pw p f x (j * k) = pw p f (pw p f x j) k
  | 0 => rfl
  | k + 1 => by
    rw [Nat.mul_succ, pw_add hp hn, pw_mul hp hn x j k]
    rfl
end
end Pm
end
section
namespace PF
open PySem Pm

/-! what the program's defs do, in plain words -/
def iL (l : List Int) : List D := l.map .int
@[simp] theorem iL_len (l : List Int) : (iL l).length = l.length := List.length_map ..
@[simp] theorem iL_nil : iL [] = [] := rfl
@[simp] theorem iL_cons (a : Int) (l : List Int) : iL (a :: l) = .int a :: iL l := rfl
@[simp] theorem iL_app (l m : List Int) : iL (l ++ m) = iL l ++ iL m := List.map_append ..
@[simp] theorem iL_rev (l : List Int) : (iL l).reverse = iL l.reverse := (List.map_reverse ..).symm
@[simp] theorem iL_set (l : List Int) (k : Nat) (c : Int) : (iL l).set k (.int c) = iL (l.set k c) := by simp [iL, List.map_set]
@[simp] theorem iL_take (l : List Int) (k : Nat) : (iL l).take k = iL (l.take k) := (List.map_take ..).symm
def rD (p : Int) (f : List Int) : D := .tup [.int p, .tup (iL f)]
structure Rg (p : Int) (f : List Int) : Prop where
  p2 : 2 ≤ p
  p31 : p ≤ 31
  n1 : 1 ≤ f.length
  n5 : f.length ≤ 5
  fc : ∀ a ∈ f, 0 ≤ a ∧ a < p
  pr : p ∈ ([2, 3, 5, 7, 11, 13, 17, 19, 23, 29, 31] : List Int)
  q32 : p ^ f.length ≤ 32
/-- a slot of a loop's name -/
def Fr (s : Sl) : Prop := s = .un ∨ ∃ d, s = .val d
theorem Fr.un : Fr .un := .inl rfl
theorem Fr.val (d : D) : Fr (.val d) := .inr ⟨d, rfl⟩
theorem go_cons {t : Tg} {b : Rho → Fl} {d : D} {ds : List D} {ρ ρ1 ρ2 : Rho} (h : setTg t d ρ = some ρ1) (h2 : b ρ1 = .nx ρ2) : forGo t b (d :: ds) ρ = forGo t b ds ρ2 := by
  show (match setTg t d ρ with
    | none => Fl.bad
    | some ρ1 => (b ρ1).seq (forGo t b ds)) = _
  rw [h]
  show (b ρ1).seq _ = _
  rw [h2]
  rfl
theorem lc_cons {tg : Tg} {f : Rho → R D} {own : List Nat} {d x : D} {ds : List D} {ρ ρ1 ρ2 : Rho} (h : setTg tg d ρ = some ρ1) (h2 : f ρ1 = .ok x ρ2) : lcGo tg cYes f own (d :: ds) ρ = (lcGo tg cYes f own ds (wipeR ρ2 own)).bind fun xs ρ4 => .ok (x :: xs) ρ4 := by
  show (match setTg tg d ρ with
    | none => R.bad
    | some ρ1 => (noX (cYes ρ1)).bind fun b ρ2 => match b with
      | true => (noX (f ρ2)).bind fun x ρ3 => (lcGo tg cYes f own ds (wipeR ρ3 own)).bind fun xs ρ4 => .ok (x :: xs) ρ4
      | false => lcGo tg cYes f own ds (wipeR ρ2 own)) = _
  rw [h]
  show (noX (f ρ1)).bind _ = _
  rw [h2]
  rfl
section
variable {p : Int} {f : List Int}
theorem is_integer_int (v lo hi : Int) : cb_is_integer [] [.int v, .int lo, .int hi] = .ok (.bool (decide (lo ≤ v) && decide (v ≤ hi))) [] := by
  by_cases h : lo ≤ v <;> simp [cb_is_integer, sq, fAsg, fAsgT, fPar, fPar3, fIf, fRet, fExpr, fRaise, fFor, fAug, fApp, fExt, fAugIx, fSetIx, sD, asD, rVar, rCon, bin2, lift, chn, tru, truV, vAnd, vOr, vNot, vNeg, negD, fAnd, fOr, fNot, vIte, dTup, dLst, aNil, aCons, gIxv, rIxv, hasV, vSl, slD, oNone, oSome, vRev, revD, callP, callI, ioOf, vBlt, bltD, vIsi, isiT, opD, addD, subD, mulD, fdivD, modD, powD, cmpD, ordD, bl, isD, inD, ipD, ixD, iSeq, iR1, iR2, iR3, iEnu, iZipD, seqD, vLc, cYes, noX, setS, stB, setTg, stIn, entry, outP, outI, ioAt, R.bind, R.fl, Fl.seq, Vl.dat, Vl.sl, ift, vLenV, lcGo, wipeR, restR, keepS, h]
theorem digits_loop (hp : 0 < p) (hp2 : p ≤ 31) : ∀ (ds : List D) (x : Int) (acc : List D) (s : Sl), acc.length + ds.length ≤ 1000 → Fr s → ∃ x' s', Fr s' ∧
    forGo (.n 3) cb_digits_of_b1 ds [.val (rD p f), .val (.int x), .own acc, s] = .nx [.val (rD p f), .val (.int x'), .own (acc ++ iL (dig p ds.length x)), s']
  | [], x, acc, s, h, hs => ⟨x, s, hs, by simp [forGo, dig]⟩
  | d :: ds, x, acc, s, h, hs => by
    simp only [List.length_cons] at h
    obtain ⟨x', s', hs', e⟩ := digits_loop hp hp2 ds (x / p) (acc ++ [.int (x % p)]) (.val d) (by simp; omega) (.val d)
    refine ⟨x', s', hs', ?_⟩
    have h1 : acc.length < lim := by unfold lim; omega
    have h2 : p < 1073741824 := by omega
    rw [go_cons (ρ1 := [.val (rD p f), .val (.int x), .own acc, .val d]) (ρ2 := [.val (rD p f), .val (.int (x / p)), .own (acc ++ [.int (x % p)]), .val d]), e]
    · simp [dig]
    · rcases hs with rfl | ⟨d', rfl⟩ <;> simp [sq, fAsg, fAsgT, fPar, fPar3, fIf, fRet, fExpr, fRaise, fFor, fAug, fApp, fExt, fAugIx, fSetIx, sD, asD, rVar, rCon, bin2, lift, chn, tru, truV, vAnd, vOr, vNot, vNeg, negD, fAnd, fOr, fNot, vIte, dTup, dLst, aNil, aCons, gIxv, rIxv, hasV, vSl, slD, oNone, oSome, vRev, revD, callP, callI, ioOf, vBlt, bltD, vIsi, isiT, opD, addD, subD, mulD, fdivD, modD, powD, cmpD, ordD, bl, isD, inD, ipD, ixD, iSeq, iR1, iR2, iR3, iEnu, iZipD, seqD, vLc, cYes, noX, setS, stB, setTg, stIn, entry, outP, outI, ioAt, R.bind, R.fl, Fl.seq, Vl.dat, Vl.sl, ift, vLenV, lcGo, wipeR, restR, keepS]
    · simp [cb_digits_of_b1, sq, fAsg, fAsgT, fPar, fPar3, fIf, fRet, fExpr, fRaise, fFor, fAug, fApp, fExt, fAugIx, fSetIx, sD, asD, rVar, rCon, bin2, lift, chn, tru, truV, vAnd, vOr, vNot, vNeg, negD, fAnd, fOr, fNot, vIte, dTup, dLst, aNil, aCons, gIxv, rIxv, hasV, vSl, slD, oNone, oSome, vRev, revD, callP, callI, ioOf, vBlt, bltD, vIsi, isiT, opD, addD, subD, mulD, fdivD, modD, powD, cmpD, ordD, bl, isD, inD, ipD, ixD, iSeq, iR1, iR2, iR3, iEnu, iZipD, seqD, vLc, cYes, noX, setS, stB, setTg, stIn, entry, outP, outI, ioAt, R.bind, R.fl, Fl.seq, Vl.dat, Vl.sl, ift, vLenV, lcGo, wipeR, restR, keepS, rD, L2.atI, L2.ixN, hp, h1, h2]
theorem digits_of_ok (hp : 0 < p) (hp2 : p ≤ 31) (hn : f.length ≤ 5) (x : Int) : cb_digits_of [] [rD p f, .int x] = .ok (.lst (iL (dig p f.length x))) [] := by
  obtain ⟨x', s', hs', e⟩ := digits_loop (f := f) hp hp2 (iL f) x [] .un (by simp; omega) .un
  rw [iL_len, List.nil_append] at e
  have e0 : L2.atI [D.int p, D.tup (iL f)] 1 = some (.tup (iL f)) := rfl
  simp [cb_digits_of, sq, fAsg, fAsgT, fPar, fPar3, fIf, fRet, fExpr, fRaise, fFor, fAug, fApp, fExt, fAugIx, fSetIx, sD, asD, rVar, rCon, bin2, lift, chn, tru, truV, vAnd, vOr, vNot, vNeg, negD, fAnd, fOr, fNot, vIte, dTup, dLst, aNil, aCons, gIxv, rIxv, hasV, vSl, slD, oNone, oSome, vRev, revD, callP, callI, ioOf, vBlt, bltD, vIsi, isiT, opD, addD, subD, mulD, fdivD, modD, powD, cmpD, ordD, bl, isD, inD, ipD, ixD, iSeq, iR1, iR2, iR3, iEnu, iZipD, seqD, vLc, cYes, noX, setS, stB, setTg, stIn, entry, outP, outI, ioAt, R.bind, R.fl, Fl.seq, Vl.dat, Vl.sl, ift, vLenV, lcGo, wipeR, restR, keepS, rD, e0, lim] at e ⊢
  rw [e]
  rfl
theorem element_loop (hp : 0 < p) (hp2 : p ≤ 31) (c : D) : ∀ (l : List Int) (x : Int) (s : Sl), Fr s → ∃ s', Fr s' ∧
    forGo (.n 3) cb_element_of_b1 (iL l) [.val (rD p f), .val c, .val (.int x), s] = .nx [.val (rD p f), .val c, .val (.int (l.foldl (fun x c => x * p + c % p) x)), s']
  | [], x, s, hs => ⟨s, hs, rfl⟩
  | d :: l, x, s, hs => by
    obtain ⟨s', hs', e⟩ := element_loop hp hp2 c l (x * p + d % p) (.val (.int d)) (.val _)
    refine ⟨s', hs', ?_⟩
    have h2 : smI p = true := by unfold smI; exact decide_eq_true (by omega)
    rw [show iL (d :: l) = .int d :: iL l from rfl, go_cons (ρ1 := [.val (rD p f), .val c, .val (.int x), .val (.int d)]) (ρ2 := [.val (rD p f), .val c, .val (.int (x * p + d % p)), .val (.int d)]), e]
    · rfl
    · rcases hs with rfl | ⟨d', rfl⟩ <;> simp [sq, fAsg, fAsgT, fPar, fPar3, fIf, fRet, fExpr, fRaise, fFor, fAug, fApp, fExt, fAugIx, fSetIx, sD, asD, rVar, rCon, bin2, lift, chn, tru, truV, vAnd, vOr, vNot, vNeg, negD, fAnd, fOr, fNot, vIte, dTup, dLst, aNil, aCons, gIxv, rIxv, hasV, vSl, slD, oNone, oSome, vRev, revD, callP, callI, ioOf, vBlt, bltD, vIsi, isiT, opD, addD, subD, mulD, fdivD, modD, powD, cmpD, ordD, bl, isD, inD, ipD, ixD, iSeq, iR1, iR2, iR3, iEnu, iZipD, seqD, vLc, cYes, noX, setS, stB, setTg, stIn, entry, outP, outI, ioAt, R.bind, R.fl, Fl.seq, Vl.dat, Vl.sl, ift, vLenV, lcGo, wipeR, restR, keepS]
    · simp [cb_element_of_b1, sq, fAsg, fAsgT, fPar, fPar3, fIf, fRet, fExpr, fRaise, fFor, fAug, fApp, fExt, fAugIx, fSetIx, sD, asD, rVar, rCon, bin2, lift, chn, tru, truV, vAnd, vOr, vNot, vNeg, negD, fAnd, fOr, fNot, vIte, dTup, dLst, aNil, aCons, gIxv, rIxv, hasV, vSl, slD, oNone, oSome, vRev, revD, callP, callI, ioOf, vBlt, bltD, vIsi, isiT, opD, addD, subD, mulD, fdivD, modD, powD, cmpD, ordD, bl, isD, inD, ipD, ixD, iSeq, iR1, iR2, iR3, iEnu, iZipD, seqD, vLc, cYes, noX, setS, stB, setTg, stIn, entry, outP, outI, ioAt, R.bind, R.fl, Fl.seq, Vl.dat, Vl.sl, ift, vLenV, lcGo, wipeR, restR, keepS, rD, L2.atI, L2.ixN, hp, h2]
theorem cod_fold : ∀ (l : List Int), l.reverse.foldl (fun x c => x * p + c % p) 0 = cod p l
  | [] => rfl
  | c :: l => by
    rw [List.reverse_cons, List.foldl_append, cod_fold l]
    rfl
theorem element_of_ok (hp : 0 < p) (hp2 : p ≤ 31) (l : List Int) : cb_element_of [] [rD p f, .lst (iL l)] = .ok (.int (cod p l)) [] := by
  obtain ⟨s', hs', e⟩ := element_loop (f := f) hp hp2 (.lst (iL l)) l.reverse 0 .un .un
  rw [cod_fold] at e
  simp [cb_element_of, sq, fAsg, fAsgT, fPar, fPar3, fIf, fRet, fExpr, fRaise, fFor, fAug, fApp, fExt, fAugIx, fSetIx, sD, asD, rVar, rCon, bin2, lift, chn, tru, truV, vAnd, vOr, vNot, vNeg, negD, fAnd, fOr, fNot, vIte, dTup, dLst, aNil, aCons, gIxv, rIxv, hasV, vSl, slD, oNone, oSome, vRev, revD, callP, callI, ioOf, vBlt, bltD, vIsi, isiT, opD, addD, subD, mulD, fdivD, modD, powD, cmpD, ordD, bl, isD, inD, ipD, ixD, iSeq, iR1, iR2, iR3, iEnu, iZipD, seqD, vLc, cYes, noX, setS, stB, setTg, stIn, entry, outP, outI, ioAt, R.bind, R.fl, Fl.seq, Vl.dat, Vl.sl, ift, vLenV, lcGo, wipeR, restR, keepS] at e ⊢
  rw [e]
  rfl
end
end PF
end
section
namespace PF
open PySem Pm
section
variable {p : Int} {f : List Int}
theorem smI_le {i : Int} (h : -(10 ^ 18) ≤ i ∧ i ≤ 10 ^ 18) : smI i = true := by
  unfold smI
  have e : (10 : Int) ^ 18 = 1000000000000000000 := by decide
  rw [e] at h
  exact decide_eq_true (by omega)
theorem pow_loop (hp : 0 < p) (hp2 : p ≤ 31) (c : D) : ∀ (ds : List D) (x : Int) (s : Sl), Fr s → ∃ s', Fr s' ∧
    forGo (.n 3) cb_times_itself_b1 ds [.val (.int p), .val c, .val (.int x), s] = .nx [.val (.int p), .val c, .val (.int (x * p ^ ds.length)), s']
  | [], x, s, hs => ⟨s, hs, by simp [forGo]⟩
  | d :: ds, x, s, hs => by
    obtain ⟨s', hs', e⟩ := pow_loop hp hp2 c ds (x * p) (.val d) (.val _)
    refine ⟨s', hs', ?_⟩
    have h2 : smI p = true := smI_le (by omega)
    rw [go_cons (ρ1 := [.val (.int p), .val c, .val (.int x), .val d]) (ρ2 := [.val (.int p), .val c, .val (.int (x * p)), .val d]), e]
    · rw [List.length_cons, Int.pow_succ]
      simp [Int.mul_assoc, Int.mul_comm, Int.mul_left_comm]
    · rcases hs with rfl | ⟨d', rfl⟩ <;> simp [sq, fAsg, fAsgT, fPar, fPar3, fIf, fRet, fExpr, fRaise, fFor, fAug, fApp, fExt, fAugIx, fSetIx, sD, asD, rVar, rCon, bin2, lift, chn, tru, truV, vAnd, vOr, vNot, vNeg, negD, fAnd, fOr, fNot, vIte, dTup, dLst, aNil, aCons, gIxv, rIxv, hasV, vSl, slD, oNone, oSome, vRev, revD, callP, callI, ioOf, vBlt, bltD, vIsi, isiT, opD, addD, subD, mulD, fdivD, modD, powD, cmpD, ordD, bl, isD, inD, ipD, ixD, iSeq, iR1, iR2, iR3, iEnu, iZipD, seqD, vLc, cYes, noX, setS, stB, setTg, stIn, entry, outP, outI, ioAt, R.bind, R.fl, Fl.seq, Vl.dat, Vl.sl, ift, vLenV, lcGo, wipeR, restR, keepS]
    · simp [cb_times_itself_b1, sq, fAsg, fAsgT, fPar, fPar3, fIf, fRet, fExpr, fRaise, fFor, fAug, fApp, fExt, fAugIx, fSetIx, sD, asD, rVar, rCon, bin2, lift, chn, tru, truV, vAnd, vOr, vNot, vNeg, negD, fAnd, fOr, fNot, vIte, dTup, dLst, aNil, aCons, gIxv, rIxv, hasV, vSl, slD, oNone, oSome, vRev, revD, callP, callI, ioOf, vBlt, bltD, vIsi, isiT, opD, addD, subD, mulD, fdivD, modD, powD, cmpD, ordD, bl, isD, inD, ipD, ixD, iSeq, iR1, iR2, iR3, iEnu, iZipD, seqD, vLc, cYes, noX, setS, stB, setTg, stIn, entry, outP, outI, ioAt, R.bind, R.fl, Fl.seq, Vl.dat, Vl.sl, ift, vLenV, lcGo, wipeR, restR, keepS, h2]
theorem rng_len (lo c : Int) (n : Nat) : (rngL lo n c).length = n := by simp [rngL]
theorem times_itself_ok (hp : 0 < p) (hp2 : p ≤ 31) (n : Nat) (hn : n ≤ 1000) : cb_times_itself [] [.int p, .int n] = .ok (.int (p ^ n)) [] := by
  obtain ⟨s', hs', e⟩ := pow_loop hp hp2 (.int n) (rngL 0 n 1) 1 .un .un
  rw [rng_len, Int.one_mul] at e
  have h : smR (n : Int) = true := decide_eq_true (by omega)
  simp [cb_times_itself, sq, fAsg, fAsgT, fPar, fPar3, fIf, fRet, fExpr, fRaise, fFor, fAug, fApp, fExt, fAugIx, fSetIx, sD, asD, rVar, rCon, bin2, lift, chn, tru, truV, vAnd, vOr, vNot, vNeg, negD, fAnd, fOr, fNot, vIte, dTup, dLst, aNil, aCons, gIxv, rIxv, hasV, vSl, slD, oNone, oSome, vRev, revD, callP, callI, ioOf, vBlt, bltD, vIsi, isiT, opD, addD, subD, mulD, fdivD, modD, powD, cmpD, ordD, bl, isD, inD, ipD, ixD, iSeq, iR1, iR2, iR3, iEnu, iZipD, seqD, vLc, cYes, noX, setS, stB, setTg, stIn, entry, outP, outI, ioAt, R.bind, R.fl, Fl.seq, Vl.dat, Vl.sl, ift, vLenV, lcGo, wipeR, restR, keepS, h]
  rw [e]
  rfl
theorem size_of_ok (r : Rg p f) : cb_size_of [] [rD p f] = .ok (.int (p ^ f.length)) [] := by
  have e0 : L2.atI [D.int p, D.tup (iL f)] 1 = some (.tup (iL f)) := rfl
  have e1 : L2.atI [D.int p, D.tup (iL f)] 0 = some (.int p) := rfl
  have := times_itself_ok (p := p) (by have := r.p2; omega) r.p31 f.length (by have := r.n5; omega)
  simp [cb_size_of, sq, fAsg, fAsgT, fPar, fPar3, fIf, fRet, fExpr, fRaise, fFor, fAug, fApp, fExt, fAugIx, fSetIx, sD, asD, rVar, rCon, bin2, lift, chn, tru, truV, vAnd, vOr, vNot, vNeg, negD, fAnd, fOr, fNot, vIte, dTup, dLst, aNil, aCons, gIxv, rIxv, hasV, vSl, slD, oNone, oSome, vRev, revD, callP, callI, ioOf, vBlt, bltD, vIsi, isiT, opD, addD, subD, mulD, fdivD, modD, powD, cmpD, ordD, bl, isD, inD, ipD, ixD, iSeq, iR1, iR2, iR3, iEnu, iZipD, seqD, vLc, cYes, noX, setS, stB, setTg, stIn, entry, outP, outI, ioAt, R.bind, R.fl, Fl.seq, Vl.dat, Vl.sl, ift, vLenV, lcGo, wipeR, restR, keepS, rD, e0, e1, this]
theorem check_element_ok (r : Rg p f) {x : Int} (hx : El p f x) : cb_check_element [] [rD p f, .int x] = .ok .none [] := by
  have h1 := size_of_ok r
  have h2 := is_integer_int x 0 (p ^ f.length - 1)
  have e : (decide (0 ≤ x) && decide (x ≤ p ^ f.length - 1)) = true := by
    have := hx.1
    have := hx.2
    simp
    omega
  rw [e] at h2
  simp [cb_check_element, sq, fAsg, fAsgT, fPar, fPar3, fIf, fRet, fExpr, fRaise, fFor, fAug, fApp, fExt, fAugIx, fSetIx, sD, asD, rVar, rCon, bin2, lift, chn, tru, truV, vAnd, vOr, vNot, vNeg, negD, fAnd, fOr, fNot, vIte, dTup, dLst, aNil, aCons, gIxv, rIxv, hasV, vSl, slD, oNone, oSome, vRev, revD, callP, callI, ioOf, vBlt, bltD, vIsi, isiT, opD, addD, subD, mulD, fdivD, modD, powD, cmpD, ordD, bl, isD, inD, ipD, ixD, iSeq, iR1, iR2, iR3, iEnu, iZipD, seqD, vLc, cYes, noX, setS, stB, setTg, stIn, entry, outP, outI, ioAt, R.bind, R.fl, Fl.seq, Vl.dat, Vl.sl, ift, vLenV, lcGo, wipeR, restR, keepS, h1, h2]
/-! plus, minus -/
theorem plus_loop (ring x y : D) : ∀ (l m : List Int), lcGo (.t2 3 4) cYes cb_plus_e1 [3, 4] (zipL (iL l) (iL m)) [.val ring, .val x, .val y, .un, .un] = .ok (iL (addL l m)) [.val ring, .val x, .val y, .un, .un]
  | [], m => by simp [zipL, lcGo, addL]
  | a :: l, [] => by simp [zipL, lcGo, addL]
  | a :: l, b :: m => by
    have ih := plus_loop ring x y l m
    rw [show zipL (iL (a :: l)) (iL (b :: m)) = .tup [.int a, .int b] :: zipL (iL l) (iL m) from rfl, lc_cons (ρ1 := [.val ring, .val x, .val y, .val (.int a), .val (.int b)]) (x := .int (a + b)) (ρ2 := [.val ring, .val x, .val y, .val (.int a), .val (.int b)])]
    · simp only [wipeR, List.set_cons_succ, List.set_cons_zero]
      rw [ih]
      simp [R.bind, addL]
    · simp [sq, fAsg, fAsgT, fPar, fPar3, fIf, fRet, fExpr, fRaise, fFor, fAug, fApp, fExt, fAugIx, fSetIx, sD, asD, rVar, rCon, bin2, lift, chn, tru, truV, vAnd, vOr, vNot, vNeg, negD, fAnd, fOr, fNot, vIte, dTup, dLst, aNil, aCons, gIxv, rIxv, hasV, vSl, slD, oNone, oSome, vRev, revD, callP, callI, ioOf, vBlt, bltD, vIsi, isiT, opD, addD, subD, mulD, fdivD, modD, powD, cmpD, ordD, bl, isD, inD, ipD, ixD, iSeq, iR1, iR2, iR3, iEnu, iZipD, seqD, vLc, cYes, noX, setS, stB, setTg, stIn, entry, outP, outI, ioAt, R.bind, R.fl, Fl.seq, Vl.dat, Vl.sl, ift, vLenV, lcGo, wipeR, restR, keepS]
    · simp [cb_plus_e1, sq, fAsg, fAsgT, fPar, fPar3, fIf, fRet, fExpr, fRaise, fFor, fAug, fApp, fExt, fAugIx, fSetIx, sD, asD, rVar, rCon, bin2, lift, chn, tru, truV, vAnd, vOr, vNot, vNeg, negD, fAnd, fOr, fNot, vIte, dTup, dLst, aNil, aCons, gIxv, rIxv, hasV, vSl, slD, oNone, oSome, vRev, revD, callP, callI, ioOf, vBlt, bltD, vIsi, isiT, opD, addD, subD, mulD, fdivD, modD, powD, cmpD, ordD, bl, isD, inD, ipD, ixD, iSeq, iR1, iR2, iR3, iEnu, iZipD, seqD, vLc, cYes, noX, setS, stB, setTg, stIn, entry, outP, outI, ioAt, R.bind, R.fl, Fl.seq, Vl.dat, Vl.sl, ift, vLenV, lcGo, wipeR, restR, keepS]
theorem zipL_le (l m : List D) (h : l.length ≤ 1000) : (zipL l m).length ≤ lim := by
  rw [zipL_len]
  unfold lim
  omega
theorem plus_ok (r : Rg p f) (x y : Int) : cb_plus [] [rD p f, .int x, .int y] = .ok (.int (add p f x y)) [] := by
  have hp : 0 < p := by have := r.p2; omega
  have h1 := digits_of_ok (f := f) hp r.p31 r.n5 x
  have h2 := digits_of_ok (f := f) hp r.p31 r.n5 y
  have h3 := element_of_ok (f := f) hp r.p31 (addL (dig p f.length x) (dig p f.length y))
  have h4 := plus_loop (rD p f) (.int x) (.int y) (dig p f.length x) (dig p f.length y)
  have h5 := zipL_le (iL (dig p f.length x)) (iL (dig p f.length y)) (by simp [dig_len]; have := r.n5; omega)
  simp [cb_plus, sq, fAsg, fAsgT, fPar, fPar3, fIf, fRet, fExpr, fRaise, fFor, fAug, fApp, fExt, fAugIx, fSetIx, sD, asD, rVar, rCon, bin2, lift, chn, tru, truV, vAnd, vOr, vNot, vNeg, negD, fAnd, fOr, fNot, vIte, dTup, dLst, aNil, aCons, gIxv, rIxv, hasV, vSl, slD, oNone, oSome, vRev, revD, callP, callI, ioOf, vBlt, bltD, vIsi, isiT, opD, addD, subD, mulD, fdivD, modD, powD, cmpD, ordD, bl, isD, inD, ipD, ixD, iSeq, iR1, iR2, iR3, iEnu, iZipD, seqD, vLc, cYes, noX, setS, stB, setTg, stIn, entry, outP, outI, ioAt, R.bind, R.fl, Fl.seq, Vl.dat, Vl.sl, ift, vLenV, wipeR, restR, keepS, h1, h2]
  rw [if_pos h5, h4]
  simp [h3]
  rfl
theorem minus_loop (ring x : D) : ∀ (l : List Int), lcGo (.n 2) cYes cb_minus_e1 [2] (iL l) [.val ring, .val x, .un] = .ok (iL (l.map fun c => 0 - c)) [.val ring, .val x, .un]
  | [] => by simp [lcGo]
  | a :: l => by
    have ih := minus_loop ring x l
    rw [show iL (a :: l) = .int a :: iL l from rfl, lc_cons (ρ1 := [.val ring, .val x, .val (.int a)]) (x := .int (0 - a)) (ρ2 := [.val ring, .val x, .val (.int a)])]
    · simp only [wipeR, List.set_cons_succ, List.set_cons_zero]
      rw [ih]
      simp [R.bind]
    · simp [sq, fAsg, fAsgT, fPar, fPar3, fIf, fRet, fExpr, fRaise, fFor, fAug, fApp, fExt, fAugIx, fSetIx, sD, asD, rVar, rCon, bin2, lift, chn, tru, truV, vAnd, vOr, vNot, vNeg, negD, fAnd, fOr, fNot, vIte, dTup, dLst, aNil, aCons, gIxv, rIxv, hasV, vSl, slD, oNone, oSome, vRev, revD, callP, callI, ioOf, vBlt, bltD, vIsi, isiT, opD, addD, subD, mulD, fdivD, modD, powD, cmpD, ordD, bl, isD, inD, ipD, ixD, iSeq, iR1, iR2, iR3, iEnu, iZipD, seqD, vLc, cYes, noX, setS, stB, setTg, stIn, entry, outP, outI, ioAt, R.bind, R.fl, Fl.seq, Vl.dat, Vl.sl, ift, vLenV, lcGo, wipeR, restR, keepS]
    · simp [cb_minus_e1, sq, fAsg, fAsgT, fPar, fPar3, fIf, fRet, fExpr, fRaise, fFor, fAug, fApp, fExt, fAugIx, fSetIx, sD, asD, rVar, rCon, bin2, lift, chn, tru, truV, vAnd, vOr, vNot, vNeg, negD, fAnd, fOr, fNot, vIte, dTup, dLst, aNil, aCons, gIxv, rIxv, hasV, vSl, slD, oNone, oSome, vRev, revD, callP, callI, ioOf, vBlt, bltD, vIsi, isiT, opD, addD, subD, mulD, fdivD, modD, powD, cmpD, ordD, bl, isD, inD, ipD, ixD, iSeq, iR1, iR2, iR3, iEnu, iZipD, seqD, vLc, cYes, noX, setS, stB, setTg, stIn, entry, outP, outI, ioAt, R.bind, R.fl, Fl.seq, Vl.dat, Vl.sl, ift, vLenV, lcGo, wipeR, restR, keepS]
theorem minus_ok (r : Rg p f) (x : Int) : cb_minus [] [rD p f, .int x] = .ok (.int (neg p f x)) [] := by
  have hp : 0 < p := by have := r.p2; omega
  have h1 := digits_of_ok (f := f) hp r.p31 r.n5 x
  have h3 := element_of_ok (f := f) hp r.p31 ((dig p f.length x).map fun c => 0 - c)
  have h4 := minus_loop (rD p f) (.int x) (dig p f.length x)
  have h5 : (dig p f.length x).length ≤ lim := by rw [dig_len]; unfold lim; have := r.n5; omega
  simp [cb_minus, sq, fAsg, fAsgT, fPar, fPar3, fIf, fRet, fExpr, fRaise, fFor, fAug, fApp, fExt, fAugIx, fSetIx, sD, asD, rVar, rCon, bin2, lift, chn, tru, truV, vAnd, vOr, vNot, vNeg, negD, fAnd, fOr, fNot, vIte, dTup, dLst, aNil, aCons, gIxv, rIxv, hasV, vSl, slD, oNone, oSome, vRev, revD, callP, callI, ioOf, vBlt, bltD, vIsi, isiT, opD, addD, subD, mulD, fdivD, modD, powD, cmpD, ordD, bl, isD, inD, ipD, ixD, iSeq, iR1, iR2, iR3, iEnu, iZipD, seqD, vLc, cYes, noX, setS, stB, setTg, stIn, entry, outP, outI, ioAt, R.bind, R.fl, Fl.seq, Vl.dat, Vl.sl, ift, vLenV, wipeR, restR, keepS, h1]
  rw [if_pos h5, h4]
  simp only [List.set_cons_succ, List.set_cons_zero]
  rw [h3]
  rfl
/-! times -/
/-- one item more -/
def upd (l : List Int) (k : Nat) (c : Int) : List Int := l.set k (l.getD k 0 + c)
theorem upd_len (l : List Int) (k : Nat) (c : Int) : (upd l k c).length = l.length := by simp [upd]
theorem P_upd {n : Nat} {g : V} {l : List Int} {k : Nat} (h : k < l.length) (c : Int) (u : V) : P n g (upd l k c) u = fun i => P n g l u i + c * Sk n g k u i := by
  have e : l[k]? = some (l.getD k 0) := by
    rw [List.getD_eq_getElem?_getD, List.getElem?_eq_getElem h]
    rfl
  exact P_set l k c (l.getD k 0) u e
theorem atI_nat {l : List Int} {k : Nat} (h : k < l.length) : L2.atI (iL l) (k : Int) = some (.int (l.getD k 0)) := by
  have e : L2.ixN (iL l).length (k : Int) = some k := by simp [L2.ixN, h]
  unfold L2.atI
  rw [e]
  simp [iL, h]
end
end PF
end
section
namespace PF
open PySem Pm
section
variable {p : Int} {f : List Int}
theorem ixN_nat {n k : Nat} (h : k < n) : L2.ixN n (k : Int) = some k := by simp [L2.ixN, h]
theorem Sk_cons {n : Nat} {g : V} (k : Nat) (b : Int) (ys : List Int) (u : V) : Sk n g k (P n g (b :: ys) u) = fun i => b * Sk n g k u i + Sk n g (k + 1) (P n g ys u) i := by
  have e : P n g (b :: ys) u = fun i => b * u i + 1 * Pm.S n g (P n g ys u) i := by
    funext i
    show b * u i + P n g ys (Pm.S n g u) i = _
    rw [P_S, Int.one_mul]
  rw [e, Sk_lin]
  funext i
  rw [Int.one_mul]
  rfl
theorem conv_in (r0 r1 r2 r3 r4 r5 s11 : Sl) (a : Int) (i : Nat) (ha : smI a = true) : ∀ (ys : List Int) (j : Nat) (l : List Int) (s9 s10 : Sl), i + j + ys.length ≤ l.length → Fr s9 → Fr s10 → ∃ l' s9' s10', Fr s9' ∧ Fr s10' ∧ l'.length = l.length ∧
    (∀ (n : Nat) (g u : Pm.V), P n g l' u = fun k => P n g l u k + a * Sk n g (i + j) (P n g ys u) k) ∧
    forGo (.t2 9 10) cb_times_b3 (enuL j (iL ys)) [r0, r1, r2, r3, r4, r5, .own (iL l), .val (.int i), .val (.int a), s9, s10, s11] = .nx [r0, r1, r2, r3, r4, r5, .own (iL l'), .val (.int i), .val (.int a), s9', s10', s11]
  | [], j, l, s9, s10, h, h9, h10 => by
    refine ⟨l, s9, s10, h9, h10, rfl, fun n g u => ?_, rfl⟩
    funext k
    have e : Sk n g (i + j) (P n g [] u) = fun _ => 0 := by
      rw [Sk_P]
      rfl
    rw [e]
    simp
  | b :: ys, j, l, s9, s10, h, h9, h10 => by
    simp only [List.length_cons] at h
    have hk : i + j < l.length := by omega
    obtain ⟨l', s9', s10', q9, q10, hl, hP, e⟩ := conv_in r0 r1 r2 r3 r4 r5 s11 a i ha ys (j + 1) (upd l (i + j) (a * b)) (.val (.int j)) (.val (.int b)) (by rw [upd_len]; omega) (.val _) (.val _)
    refine ⟨l', s9', s10', q9, q10, by rw [hl, upd_len], fun n g u => ?_, ?_⟩
    · rw [hP n g u, P_upd hk, Sk_cons]
      funext k
      rw [show i + (j + 1) = i + j + 1 by omega]
      grind
    · have e1 : ((i : Int) + (j : Int)) = ((i + j : Nat) : Int) := by omega
      have e3 : (0 : Int) ≤ (i : Int) + (j : Int) := by omega
      have e4 : L2.atI (iL l) ((i : Int) + (j : Int)) = some (.int (l.getD (i + j) 0)) := by rw [e1]; exact atI_nat hk
      have e5 : L2.ixN (iL l).length ((i : Int) + (j : Int)) = some (i + j) := by rw [e1]; exact ixN_nat (by simpa using hk)
      rw [show enuL j (iL (b :: ys)) = .tup [.int (j : Nat), .int b] :: enuL (j + 1) (iL ys) from rfl,
        go_cons (ρ1 := [r0, r1, r2, r3, r4, r5, .own (iL l), .val (.int i), .val (.int a), .val (.int (j : Nat)), .val (.int b), s11]) (ρ2 := [r0, r1, r2, r3, r4, r5, .own (iL (upd l (i + j) (a * b))), .val (.int i), .val (.int a), .val (.int (j : Nat)), .val (.int b), s11]), e]
      · rcases h9 with rfl | ⟨d9, rfl⟩ <;> rcases h10 with rfl | ⟨d10, rfl⟩ <;> simp [sq, fAsg, fAsgT, fPar, fPar3, fIf, fRet, fExpr, fRaise, fFor, fAug, fApp, fExt, fAugIx, fSetIx, sD, asD, rVar, rCon, bin2, lift, chn, tru, truV, vAnd, vOr, vNot, vNeg, negD, fAnd, fOr, fNot, vIte, dTup, dLst, aNil, aCons, gIxv, rIxv, hasV, vSl, slD, oNone, oSome, vRev, revD, callP, callI, ioOf, vBlt, bltD, vIsi, isiT, opD, addD, subD, mulD, fdivD, modD, powD, cmpD, ordD, bl, isD, inD, ipD, ixD, iSeq, iR1, iR2, iR3, iEnu, iZipD, seqD, vLc, cYes, noX, setS, stB, setTg, stIn, entry, outP, outI, ioAt, R.bind, R.fl, Fl.seq, Vl.dat, Vl.sl, ift, vLenV, lcGo, wipeR, restR, keepS]
      · simp only [iL_len] at e4 e5
        simp [cb_times_b3, sq, fAsg, fAsgT, fPar, fPar3, fIf, fRet, fExpr, fRaise, fFor, fAug, fApp, fExt, fAugIx, fSetIx, sD, asD, rVar, rCon, bin2, lift, chn, tru, truV, vAnd, vOr, vNot, vNeg, negD, fAnd, fOr, fNot, vIte, dTup, dLst, aNil, aCons, gIxv, rIxv, hasV, vSl, slD, oNone, oSome, vRev, revD, callP, callI, ioOf, vBlt, bltD, vIsi, isiT, opD, addD, subD, mulD, fdivD, modD, powD, cmpD, ordD, bl, isD, inD, ipD, ixD, iSeq, iR1, iR2, iR3, iEnu, iZipD, seqD, vLc, cYes, noX, setS, stB, setTg, stIn, entry, outP, outI, ioAt, R.bind, R.fl, Fl.seq, Vl.dat, Vl.sl, ift, vLenV, lcGo, wipeR, restR, keepS, ha, e3, e4, e5, upd]
theorem enu_len (l : List Int) (k : Nat) : (enuL k (iL l)).length = l.length := by rw [enuL_len, iL_len]
theorem conv_out (r : Rg p f) (r1 r3 r4 r5 s11 : Sl) (y : Int) : ∀ (xs : List Int) (i : Nat) (l : List Int) (s7 s8 s9 s10 : Sl), (∀ a ∈ xs, smI a = true) → i + xs.length + f.length ≤ l.length → Fr s7 → Fr s8 → Fr s9 → Fr s10 → ∃ l' s7' s8' s9' s10', (Fr s7' ∧ Fr s8') ∧ l'.length = l.length ∧
    (∀ (n : Nat) (g u : Pm.V), P n g l' u = fun k => P n g l u k + Sk n g i (P n g xs (P n g (dig p f.length y) u)) k) ∧
    forGo (.t2 7 8) cb_times_b4 (enuL i (iL xs)) [.val (rD p f), r1, .val (.int y), r3, r4, r5, .own (iL l), s7, s8, s9, s10, s11] = .nx [.val (rD p f), r1, .val (.int y), r3, r4, r5, .own (iL l'), s7', s8', s9', s10', s11]
  | [], i, l, s7, s8, s9, s10, ha, h, h7, h8, h9, h10 => by
    refine ⟨l, s7, s8, s9, s10, ⟨h7, h8⟩, rfl, fun n g u => ?_, rfl⟩
    funext k
    have e : Sk n g i (P n g [] (P n g (dig p f.length y) u)) = fun _ => 0 := by
      rw [Sk_P]
      rfl
    rw [e]
    simp
  | a :: xs, i, l, s7, s8, s9, s10, ha, h, h7, h8, h9, h10 => by
    simp only [List.length_cons] at h
    have hp : 0 < p := by have := r.p2; omega
    have h1 := digits_of_ok (f := f) hp r.p31 r.n5 y
    obtain ⟨l1, t9, t10, q9, q10, hl1, hP1, e1⟩ := conv_in (.val (rD p f)) r1 (.val (.int y)) r3 r4 r5 s11 a i (ha a List.mem_cons_self) (dig p f.length y) 0 l s9 s10 (by rw [dig_len]; omega) h9 h10
    obtain ⟨l', s7', s8', s9', s10', hq, hl, hP, e⟩ := conv_out r r1 r3 r4 r5 s11 y xs (i + 1) l1 (.val (.int i)) (.val (.int a)) t9 t10 (fun b hb => ha b (List.mem_cons_of_mem _ hb)) (by omega) (.val _) (.val _) q9 q10
    refine ⟨l', s7', s8', s9', s10', hq, by omega, fun n g u => ?_, ?_⟩
    · rw [hP n g u, hP1 n g u, Sk_cons]
      funext k
      rw [Nat.add_zero]
      grind
    · rw [show enuL i (iL (a :: xs)) = .tup [.int (i : Nat), .int a] :: enuL (i + 1) (iL xs) from rfl,
        go_cons (ρ1 := [.val (rD p f), r1, .val (.int y), r3, r4, r5, .own (iL l), .val (.int i), .val (.int a), s9, s10, s11]) (ρ2 := [.val (rD p f), r1, .val (.int y), r3, r4, r5, .own (iL l1), .val (.int i), .val (.int a), t9, t10, s11]), e]
      · rcases h7 with rfl | ⟨d7, rfl⟩ <;> rcases h8 with rfl | ⟨d8, rfl⟩ <;> simp [sq, fAsg, fAsgT, fPar, fPar3, fIf, fRet, fExpr, fRaise, fFor, fAug, fApp, fExt, fAugIx, fSetIx, sD, asD, rVar, rCon, bin2, lift, chn, tru, truV, vAnd, vOr, vNot, vNeg, negD, fAnd, fOr, fNot, vIte, dTup, dLst, aNil, aCons, gIxv, rIxv, hasV, vSl, slD, oNone, oSome, vRev, revD, callP, callI, ioOf, vBlt, bltD, vIsi, isiT, opD, addD, subD, mulD, fdivD, modD, powD, cmpD, ordD, bl, isD, inD, ipD, ixD, iSeq, iR1, iR2, iR3, iEnu, iZipD, seqD, vLc, cYes, noX, setS, stB, setTg, stIn, entry, outP, outI, ioAt, R.bind, R.fl, Fl.seq, Vl.dat, Vl.sl, ift, vLenV, lcGo, wipeR, restR, keepS]
      · simp [cb_times_b4, sq, fAsg, fAsgT, fPar, fPar3, fIf, fRet, fExpr, fRaise, fFor, fAug, fApp, fExt, fAugIx, fSetIx, sD, asD, rVar, rCon, bin2, lift, chn, tru, truV, vAnd, vOr, vNot, vNeg, negD, fAnd, fOr, fNot, vIte, dTup, dLst, aNil, aCons, gIxv, rIxv, hasV, vSl, slD, oNone, oSome, vRev, revD, callP, callI, ioOf, vBlt, bltD, vIsi, isiT, opD, addD, subD, mulD, fdivD, modD, powD, cmpD, ordD, bl, isD, inD, ipD, ixD, iSeq, iR1, iR2, iR3, iEnu, iZipD, seqD, vLc, cYes, noX, setS, stB, setTg, stIn, entry, outP, outI, ioAt, R.bind, R.fl, Fl.seq, Vl.dat, Vl.sl, ift, vLenV, lcGo, wipeR, restR, keepS, h1]
        rw [e1]
theorem take_upd {l : List Int} {k m : Nat} (h : k < m) (c : Int) : (upd l k c).take m = upd (l.take m) k c := by
  unfold upd
  rw [List.take_set]
  congr 1
  simp [List.getD_eq_getElem?_getD, List.getElem?_take, h]
theorem upd_at {l : List Int} {k m : Nat} (h : k ≠ m) (c : Int) : (upd l k c).getD m 0 = l.getD m 0 := by
  unfold upd
  simp [List.getD_eq_getElem?_getD, List.getElem?_set, h]
theorem red_in (r0 r1 r2 r3 r4 r9 r10 : Sl) (n at_ : Nat) (hn : n ≤ at_) : ∀ (fs : List Int) (i : Nat) (l : List Int) (s7 s8 : Sl), (∀ a ∈ fs, smI a = true) → i + fs.length ≤ n → at_ < l.length → Fr s7 → Fr s8 → ∃ l' s7' s8', Fr s7' ∧ Fr s8' ∧ l'.length = l.length ∧ (∀ m, at_ ≤ m → l'.getD m 0 = l.getD m 0) ∧
    (∀ (n' : Nat) (g u : Pm.V), P n' g (l'.take at_) u = fun k => P n' g (l.take at_) u k - l.getD at_ 0 * Sk n' g (at_ - n + i) (P n' g fs u) k) ∧
    forGo (.t2 7 8) cb_times_b1 (enuL i (iL fs)) [r0, r1, r2, r3, r4, .val (.int n), .own (iL l), s7, s8, r9, r10, .val (.int at_)] = .nx [r0, r1, r2, r3, r4, .val (.int n), .own (iL l'), s7', s8', r9, r10, .val (.int at_)]
  | [], i, l, s7, s8, ha, h, hl, h7, h8 => by
    refine ⟨l, s7, s8, h7, h8, rfl, fun _ _ => rfl, fun n' g u => ?_, rfl⟩
    funext k
    have e : Sk n' g (at_ - n + i) (P n' g [] u) = fun _ => 0 := by
      rw [Sk_P]
      rfl
    rw [e]
    simp
  | c :: fs, i, l, s7, s8, ha, h, hl, h7, h8 => by
    simp only [List.length_cons] at h
    have hk : at_ - n + i < at_ := by omega
    have hkl : at_ - n + i < l.length := by omega
    obtain ⟨l', s7', s8', q7, q8, e1, e2, hP, e⟩ := red_in r0 r1 r2 r3 r4 r9 r10 n at_ hn fs (i + 1) (upd l (at_ - n + i) (-(c * l.getD at_ 0))) (.val (.int i)) (.val (.int c)) (fun b hb => ha b (List.mem_cons_of_mem _ hb)) (by omega) (by rw [upd_len]; exact hl) (.val _) (.val _)
    have e0 : (upd l (at_ - n + i) (-(c * l.getD at_ 0))).getD at_ 0 = l.getD at_ 0 := upd_at (by omega) _
    refine ⟨l', s7', s8', q7, q8, by rw [e1, upd_len], fun m hm => by rw [e2 m hm, upd_at (by omega)], fun n' g u => ?_, ?_⟩
    · rw [hP n' g u, e0, take_upd hk, P_upd (by rw [List.length_take]; omega), Sk_cons]
      funext k
      rw [show at_ - n + (i + 1) = at_ - n + i + 1 by omega]
      grind
    · have e3 : ((at_ : Int) - (n : Int) + (i : Int)) = ((at_ - n + i : Nat) : Int) := by omega
      have e4 : (0 : Int) ≤ (at_ : Int) - (n : Int) + (i : Int) := by omega
      have e5 : L2.atI (iL l) ((at_ : Int) - (n : Int) + (i : Int)) = some (.int (l.getD (at_ - n + i) 0)) := by rw [e3]; exact atI_nat hkl
      have e6 : L2.ixN (iL l).length ((at_ : Int) - (n : Int) + (i : Int)) = some (at_ - n + i) := by rw [e3]; exact ixN_nat (by simpa using hkl)
      have e7 : L2.atI (iL l) (at_ : Int) = some (.int (l.getD at_ 0)) := atI_nat hl
      have hc := ha c List.mem_cons_self
      rw [show enuL i (iL (c :: fs)) = .tup [.int (i : Nat), .int c] :: enuL (i + 1) (iL fs) from rfl,
        go_cons (ρ1 := [r0, r1, r2, r3, r4, .val (.int n), .own (iL l), .val (.int i), .val (.int c), r9, r10, .val (.int at_)]) (ρ2 := [r0, r1, r2, r3, r4, .val (.int n), .own (iL (upd l (at_ - n + i) (-(c * l.getD at_ 0)))), .val (.int i), .val (.int c), r9, r10, .val (.int at_)]), e]
      · rcases h7 with rfl | ⟨d7, rfl⟩ <;> rcases h8 with rfl | ⟨d8, rfl⟩ <;> simp [sq, fAsg, fAsgT, fPar, fPar3, fIf, fRet, fExpr, fRaise, fFor, fAug, fApp, fExt, fAugIx, fSetIx, sD, asD, rVar, rCon, bin2, lift, chn, tru, truV, vAnd, vOr, vNot, vNeg, negD, fAnd, fOr, fNot, vIte, dTup, dLst, aNil, aCons, gIxv, rIxv, hasV, vSl, slD, oNone, oSome, vRev, revD, callP, callI, ioOf, vBlt, bltD, vIsi, isiT, opD, addD, subD, mulD, fdivD, modD, powD, cmpD, ordD, bl, isD, inD, ipD, ixD, iSeq, iR1, iR2, iR3, iEnu, iZipD, seqD, vLc, cYes, noX, setS, stB, setTg, stIn, entry, outP, outI, ioAt, R.bind, R.fl, Fl.seq, Vl.dat, Vl.sl, ift, vLenV, lcGo, wipeR, restR, keepS]
      · simp only [iL_len] at e5 e6 e7
        simp [cb_times_b1, sq, fAsg, fAsgT, fPar, fPar3, fIf, fRet, fExpr, fRaise, fFor, fAug, fApp, fExt, fAugIx, fSetIx, sD, asD, rVar, rCon, bin2, lift, chn, tru, truV, vAnd, vOr, vNot, vNeg, negD, fAnd, fOr, fNot, vIte, dTup, dLst, aNil, aCons, gIxv, rIxv, hasV, vSl, slD, oNone, oSome, vRev, revD, callP, callI, ioOf, vBlt, bltD, vIsi, isiT, opD, addD, subD, mulD, fdivD, modD, powD, cmpD, ordD, bl, isD, inD, ipD, ixD, iSeq, iR1, iR2, iR3, iEnu, iZipD, seqD, vLc, cYes, noX, setS, stB, setTg, stIn, entry, outP, outI, ioAt, R.bind, R.fl, Fl.seq, Vl.dat, Vl.sl, ift, vLenV, lcGo, wipeR, restR, keepS, hc, e4, e5, e6, e7, upd]
        try rw [Int.sub_eq_add_neg]
theorem rng_down (hi : Int) (m : Nat) : rngL hi (m + 1) (-1) = .int hi :: rngL (hi - 1) m (-1) := by
  unfold rngL
  rw [List.range_succ_eq_map, List.map_cons, List.map_map]
  congr 1
  · simp
  · apply List.map_congr_left
    intro k _
    show D.int _ = D.int _
    congr 1
    show hi + ((k + 1 : Nat) : Int) * -1 = hi - 1 + (k : Int) * -1
    omega
theorem red_out (hf : ∀ a ∈ f, smI a = true) (hn : 0 < f.length) (r0 r1 r2 r3 s9 s10 : Sl) : ∀ (m : Nat) (l : List Int) (s7 s8 s11 : Sl), f.length + m ≤ l.length → Fr s7 → Fr s8 → Fr s11 → ∃ l' s7' s8' s11', l'.length = l.length ∧
    P f.length (vec f) (l'.take f.length) (ek 0) = P f.length (vec f) (l.take (f.length + m)) (ek 0) ∧
    forGo (.n 11) cb_times_b2 (rngL ((f.length : Int) + m - 1) m (-1)) [r0, r1, r2, r3, .val (.tup (iL f)), .val (.int f.length), .own (iL l), s7, s8, s9, s10, s11] = .nx [r0, r1, r2, r3, .val (.tup (iL f)), .val (.int f.length), .own (iL l'), s7', s8', s9, s10, s11']
  | 0, l, s7, s8, s11, h, h7, h8, h11 => ⟨l, s7, s8, s11, rfl, rfl, rfl⟩
  | m + 1, l, s7, s8, s11, h, h7, h8, h11 => by
    have hat : f.length + m < l.length := by omega
    obtain ⟨l1, t7, t8, q7, q8, el, ea, hP, e1⟩ := red_in r0 r1 r2 r3 (.val (.tup (iL f))) s9 s10 f.length (f.length + m) (by omega) f 0 l s7 s8 hf (by omega) hat h7 h8
    obtain ⟨l', s7', s8', s11', el', hP', e⟩ := red_out hf hn r0 r1 r2 r3 s9 s10 m l1 t7 t8 (.val (.int (f.length + m : Nat))) (by omega) q7 q8 (.val _)
    refine ⟨l', s7', s8', s11', by omega, ?_, ?_⟩
    · rw [hP', hP]
      have et : l.take (f.length + m + 1) = l.take (f.length + m) ++ [l.getD (f.length + m) 0] := by
        rw [List.take_add_one, List.getElem?_eq_getElem hat, List.getD_eq_getElem?_getD, List.getElem?_eq_getElem hat]
        rfl
      have eS : Sk f.length (vec f) (f.length + m) (ek 0) = fun i => -1 * Sk f.length (vec f) m (P f.length (vec f) f (ek 0)) i + 0 * Sk f.length (vec f) m (ek 0) i := by
        rw [Nat.add_comm, Sk_add, Sn_e0 hn, ← Sk_lin]
        congr 1
        funext i
        rw [P_e0 f (Nat.le_refl _)]
        by_cases hi : i < f.length
        · simp [hi]
        · have z := vec_low (l := f) i (by omega)
          simp [hi, z]
      rw [show f.length + (m + 1) = f.length + m + 1 by omega, et, P_app]
      funext k
      rw [List.length_take, Nat.min_eq_left (by omega)]
      show _ = P f.length (vec f) (l.take (f.length + m)) (ek 0) k + (l.getD (f.length + m) 0 * Sk f.length (vec f) (f.length + m) (ek 0) k + 0)
      rw [eS, show f.length + m - f.length + 0 = m by omega]
      grind
    · have ec : ((f.length : Int) + (m + 1 : Nat) - 1) = ((f.length + m : Nat) : Int) := by omega
      have ec2 : ((f.length + m : Nat) : Int) - 1 = (f.length : Int) + m - 1 := by omega
      rw [ec, rng_down, ec2, go_cons (ρ1 := [r0, r1, r2, r3, .val (.tup (iL f)), .val (.int f.length), .own (iL l), s7, s8, s9, s10, .val (.int (f.length + m : Nat))]) (ρ2 := [r0, r1, r2, r3, .val (.tup (iL f)), .val (.int f.length), .own (iL l1), t7, t8, s9, s10, .val (.int (f.length + m : Nat))]), e]
      · rcases h11 with rfl | ⟨d7, rfl⟩ <;> simp [sq, fAsg, fAsgT, fPar, fPar3, fIf, fRet, fExpr, fRaise, fFor, fAug, fApp, fExt, fAugIx, fSetIx, sD, asD, rVar, rCon, bin2, lift, chn, tru, truV, vAnd, vOr, vNot, vNeg, negD, fAnd, fOr, fNot, vIte, dTup, dLst, aNil, aCons, gIxv, rIxv, hasV, vSl, slD, oNone, oSome, vRev, revD, callP, callI, ioOf, vBlt, bltD, vIsi, isiT, opD, addD, subD, mulD, fdivD, modD, powD, cmpD, ordD, bl, isD, inD, ipD, ixD, iSeq, iR1, iR2, iR3, iEnu, iZipD, seqD, vLc, cYes, noX, setS, stB, setTg, stIn, entry, outP, outI, ioAt, R.bind, R.fl, Fl.seq, Vl.dat, Vl.sl, ift, vLenV, lcGo, wipeR, restR, keepS]
      · have e2 : cb_times_b2 = sq (fFor (iEnu (aCons (sD (rVar 4)) aNil)) (.t2 7 8) cb_times_b1) Fl.nx := rfl
        rw [e2]
        simp [sq, fFor, iEnu, aCons, aNil, sD, asD, rVar, R.bind, R.fl, Vl.dat, seqD] at e1 ⊢
        rw [e1]
        rfl
end
end PF
end
section
namespace PF
open PySem Pm
section
variable {p : Int} {f : List Int}
theorem dig_range (hp : 0 < p) : ∀ (n : Nat) (x : Int), ∀ a ∈ dig p n x, 0 ≤ a ∧ a < p
  | 0, x, a, h => nomatch h
  | n + 1, x, a, h => by
    rcases List.mem_cons.mp h with rfl | h
    · exact ⟨Int.emod_nonneg _ (Int.ne_of_gt hp), Int.emod_lt_of_pos _ hp⟩
    · exact dig_range hp n _ a h
theorem sm_of (hp2 : p ≤ 31) {l : List Int} (h : ∀ a ∈ l, 0 ≤ a ∧ a < p) : ∀ a ∈ l, smI a = true := fun a ha => smI_le (by have := h a ha; omega)
theorem P_zero {n : Nat} {g : Pm.V} (k : Nat) (u : Pm.V) : P n g (List.replicate k 0) u = fun _ => 0 := P_zeros k u
theorem zeros_own (n : Nat) : (List.replicate n [D.int 0]).flatten = iL (List.replicate n 0) := by
  induction n with
  | zero => rfl
  | succ n ih =>
    rw [List.replicate_succ, List.flatten_cons, ih]
    rfl
theorem cut_take (l : List Int) {n : Nat} (h : n ≤ l.length) : cutD (iL l) none (some (n : Int)) = iL (l.take n) := by
  have e1 : HT.sIx l.length 0 none = 0 := rfl
  have e2 : HT.sIx l.length l.length (some (n : Int)) = n := by
    rw [HT.sIx_nat]
    exact Nat.min_eq_left h
  unfold cutD
  rw [iL_len, e1, e2]
  simp
theorem times_ok (r : Rg p f) (x y : Int) : cb_times [] [rD p f, .int x, .int y] = .ok (.int (mul p f x y)) [] := by
  have hp : 0 < p := by have := r.p2; omega
  have n1 := r.n1
  have n5 := r.n5
  have p31 := r.p31
  have h1 := digits_of_ok (f := f) hp r.p31 r.n5 x
  obtain ⟨l1, t7, t8, t9, t10, q, el, hP, e1⟩ := conv_out r (.val (.int x)) (.val (.int p)) (.val (.tup (iL f))) (.val (.int f.length)) .un y (dig p f.length x) 0 (List.replicate (2 * f.length) 0) .un .un .un .un (sm_of p31 (dig_range hp _ _)) (by simp [dig_len]; omega) .un .un .un .un
  obtain ⟨l2, u7, u8, u11, el2, hP2, e2⟩ := red_out (sm_of p31 r.fc) (by omega) (.val (rD p f)) (.val (.int x)) (.val (.int y)) (.val (.int p)) t9 t10 f.length l1 t7 t8 .un (by simp at el; omega) q.1 q.2 .un
  have hz : (List.replicate ((2 : Int) * (f.length : Int)).toNat [D.int 0]).flatten = iL (List.replicate (2 * f.length) 0) := by
    rw [show ((2 : Int) * (f.length : Int)).toNat = 2 * f.length by omega]
    exact zeros_own _
  have hs2 : smI (f.length : Int) = true := smI_le (by omega)
  have hc : cutD (iL l2) none (some (f.length : Int)) = iL (l2.take f.length) := cut_take l2 (by simp at el; omega)
  have h3 := element_of_ok (f := f) hp r.p31 (l2.take f.length)
  have hr : smR (2 * (f.length : Int) - 1) = true ∧ smR ((f.length : Int) - 1) = true := ⟨decide_eq_true (by omega), decide_eq_true (by omega)⟩
  have hg : (2 * (f.length : Int) - 1 - ((f.length : Int) - 1)).toNat = f.length := by omega
  have hg2 : (f.length : Int) + (f.length : Int) - 1 = 2 * (f.length : Int) - 1 := by omega
  have hb : (0 : Int) ≤ 2 * (f.length : Int) ∧ 2 * (f.length : Int) ≤ 10000 := by omega
  rw [hg2] at e2
  simp only [rD, zeros_own] at h1 e1 e2 h3
  simp [cb_times, sq, fAsg, fAsgT, fPar, fPar3, fIf, fRet, fExpr, fRaise, fFor, fAug, fApp, fExt, fAugIx, fSetIx, sD, asD, rVar, rCon, bin2, lift, chn, tru, truV, vAnd, vOr, vNot, vNeg, negD, fAnd, fOr, fNot, vIte, dTup, dLst, aNil, aCons, gIxv, rIxv, hasV, vSl, slD, oNone, oSome, vRev, revD, callP, callI, ioOf, vBlt, bltD, vIsi, isiT, opD, addD, subD, mulD, fdivD, modD, powD, cmpD, ordD, bl, isD, inD, ipD, ixD, iSeq, iR1, iR2, iR3, iEnu, iZipD, seqD, vLc, cYes, noX, setS, stB, setTg, stIn, entry, outP, outI, ioAt, R.bind, R.fl, Fl.seq, Vl.dat, Vl.sl, ift, vLenV, wipeR, restR, keepS, rD, lim, hz, hs2, hb, h1]
  rw [e1]
  simp [hs2, hr, hg]
  rw [e2]
  simp [hc]
  rw [h3]
  have fin : cod p (l2.take f.length) = mul p f x y := by
    refine cod_cg (by rw [lst_len, List.length_take]; simp at el; omega) (.of_eq ?_)
    rw [vec_lst (P_low _ _ (fi_low x)), ← P_e0 (n := f.length) (f := vec f) (l2.take f.length) (by rw [List.length_take]; exact Nat.min_le_left _ _), hP2]
    have : l1.take (f.length + f.length) = l1 := List.take_of_length_le (by simp at el; omega)
    rw [this, hP, P_zeros, fi_P x, P_comm]
    funext k
    show 0 + P _ _ _ _ k = _
    simp
  rw [← fin]
end
end PF
end
section
namespace PF
open PySem Pm
section
variable {p : Int} {f : List Int}
theorem coefs_eq : cb_law_coefs = cb_digits_of := rfl
theorem code_eq : cb_law_code = cb_element_of := rfl
theorem coefs_ok (r : Rg p f) (x : Int) : cb_law_coefs [] [rD p f, .int x] = .ok (.lst (iL (dig p f.length x))) [] := by
  rw [coefs_eq]
  exact digits_of_ok (by have := r.p2; omega) r.p31 r.n5 x
theorem code_ok (r : Rg p f) (l : List Int) : cb_law_code [] [rD p f, .lst (iL l)] = .ok (.int (cod p l)) [] := by
  rw [code_eq]
  exact element_of_ok (by have := r.p2; omega) r.p31 l
theorem sum_here_loop (ring x y : D) : ∀ (l m : List Int), lcGo (.t2 3 4) cYes cb_law_sum_here_e1 [3, 4] (zipL (iL l) (iL m)) [.val ring, .val x, .val y, .un, .un] = .ok (iL (addL l m)) [.val ring, .val x, .val y, .un, .un] := plus_loop ring x y
theorem sum_here_ok (r : Rg p f) (x y : Int) : cb_law_sum_here [] [rD p f, .int x, .int y] = .ok (.int (add p f x y)) [] := by
  have e : cb_law_sum_here = cb_plus := rfl
  rw [e]
  exact plus_ok r x y
def ndT (p c : Int) (l m : List Int) : List Int := List.zipWith (fun a b => (a + c * b) % p) l m
def ndH (p t : Int) (l m : List Int) : List Int := List.zipWith (fun a b => (a - t * b) % p) l m
theorem hereT_loop (hp : 0 < p) (q1 q2 q3 q4 q6 q9 : Sl) (c : Int) (hc : smI c = true) : ∀ (l m : List Int), lcGo (.t2 7 8) cYes cb_law_product_here_e2 [7, 8] (zipL (iL l) (iL m)) [.val (rD p f), q1, q2, q3, q4, .val (.int c), q6, .un, .un, q9] = .ok (iL (ndT p c l m)) [.val (rD p f), q1, q2, q3, q4, .val (.int c), q6, .un, .un, q9]
  | [], m => by simp [zipL, lcGo, ndT]
  | a :: l, [] => by simp [zipL, lcGo, ndT]
  | a :: l, b :: m => by
    have ih := hereT_loop hp q1 q2 q3 q4 q6 q9 c hc l m
    rw [show zipL (iL (a :: l)) (iL (b :: m)) = .tup [.int a, .int b] :: zipL (iL l) (iL m) from rfl, lc_cons (ρ1 := [.val (rD p f), q1, q2, q3, q4, .val (.int c), q6, .val (.int a), .val (.int b), q9]) (x := .int ((a + c * b) % p)) (ρ2 := [.val (rD p f), q1, q2, q3, q4, .val (.int c), q6, .val (.int a), .val (.int b), q9])]
    · simp only [wipeR, List.set_cons_succ, List.set_cons_zero]
      rw [ih]
      simp [R.bind, ndT]
    · simp [sq, fAsg, fAsgT, fPar, fPar3, fIf, fRet, fExpr, fRaise, fFor, fAug, fApp, fExt, fAugIx, fSetIx, sD, asD, rVar, rCon, bin2, lift, chn, tru, truV, vAnd, vOr, vNot, vNeg, negD, fAnd, fOr, fNot, vIte, dTup, dLst, aNil, aCons, gIxv, rIxv, hasV, vSl, slD, oNone, oSome, vRev, revD, callP, callI, ioOf, vBlt, bltD, vIsi, isiT, opD, addD, subD, mulD, fdivD, modD, powD, cmpD, ordD, bl, isD, inD, ipD, ixD, iSeq, iR1, iR2, iR3, iEnu, iZipD, seqD, vLc, cYes, noX, setS, stB, setTg, stIn, entry, outP, outI, ioAt, R.bind, R.fl, Fl.seq, Vl.dat, Vl.sl, ift, vLenV, lcGo, wipeR, restR, keepS]
    · simp [cb_law_product_here_e2, sq, fAsg, fAsgT, fPar, fPar3, fIf, fRet, fExpr, fRaise, fFor, fAug, fApp, fExt, fAugIx, fSetIx, sD, asD, rVar, rCon, bin2, lift, chn, tru, truV, vAnd, vOr, vNot, vNeg, negD, fAnd, fOr, fNot, vIte, dTup, dLst, aNil, aCons, gIxv, rIxv, hasV, vSl, slD, oNone, oSome, vRev, revD, callP, callI, ioOf, vBlt, bltD, vIsi, isiT, opD, addD, subD, mulD, fdivD, modD, powD, cmpD, ordD, bl, isD, inD, ipD, ixD, iSeq, iR1, iR2, iR3, iEnu, iZipD, seqD, vLc, cYes, noX, setS, stB, setTg, stIn, entry, outP, outI, ioAt, R.bind, R.fl, Fl.seq, Vl.dat, Vl.sl, ift, vLenV, lcGo, wipeR, restR, keepS, hc, hp, rD, L2.atI, L2.ixN]
theorem hereH_loop (hp : 0 < p) (q1 q2 q3 q4 q5 q8 : Sl) (t : Int) : ∀ (l m : List Int), (∀ a ∈ m, smI a = true) → lcGo (.t2 7 9) cYes cb_law_product_here_e1 [7, 9] (zipL (iL l) (iL m)) [.val (rD p f), q1, q2, q3, q4, q5, .val (.int t), .un, q8, .un] = .ok (iL (ndH p t l m)) [.val (rD p f), q1, q2, q3, q4, q5, .val (.int t), .un, q8, .un]
  | [], m, hm => by simp [zipL, lcGo, ndH]
  | a :: l, [], hm => by simp [zipL, lcGo, ndH]
  | a :: l, b :: m, hm => by
    have ih := hereH_loop hp q1 q2 q3 q4 q5 q8 t l m (fun c hc => hm c (List.mem_cons_of_mem _ hc))
    have hb := hm b List.mem_cons_self
    rw [show zipL (iL (a :: l)) (iL (b :: m)) = .tup [.int a, .int b] :: zipL (iL l) (iL m) from rfl, lc_cons (ρ1 := [.val (rD p f), q1, q2, q3, q4, q5, .val (.int t), .val (.int a), q8, .val (.int b)]) (x := .int ((a - t * b) % p)) (ρ2 := [.val (rD p f), q1, q2, q3, q4, q5, .val (.int t), .val (.int a), q8, .val (.int b)])]
    · simp only [wipeR, List.set_cons_succ, List.set_cons_zero]
      rw [ih]
      simp [R.bind, ndH]
    · simp [sq, fAsg, fAsgT, fPar, fPar3, fIf, fRet, fExpr, fRaise, fFor, fAug, fApp, fExt, fAugIx, fSetIx, sD, asD, rVar, rCon, bin2, lift, chn, tru, truV, vAnd, vOr, vNot, vNeg, negD, fAnd, fOr, fNot, vIte, dTup, dLst, aNil, aCons, gIxv, rIxv, hasV, vSl, slD, oNone, oSome, vRev, revD, callP, callI, ioOf, vBlt, bltD, vIsi, isiT, opD, addD, subD, mulD, fdivD, modD, powD, cmpD, ordD, bl, isD, inD, ipD, ixD, iSeq, iR1, iR2, iR3, iEnu, iZipD, seqD, vLc, cYes, noX, setS, stB, setTg, stIn, entry, outP, outI, ioAt, R.bind, R.fl, Fl.seq, Vl.dat, Vl.sl, ift, vLenV, lcGo, wipeR, restR, keepS]
    · simp [cb_law_product_here_e1, sq, fAsg, fAsgT, fPar, fPar3, fIf, fRet, fExpr, fRaise, fFor, fAug, fApp, fExt, fAugIx, fSetIx, sD, asD, rVar, rCon, bin2, lift, chn, tru, truV, vAnd, vOr, vNot, vNeg, negD, fAnd, fOr, fNot, vIte, dTup, dLst, aNil, aCons, gIxv, rIxv, hasV, vSl, slD, oNone, oSome, vRev, revD, callP, callI, ioOf, vBlt, bltD, vIsi, isiT, opD, addD, subD, mulD, fdivD, modD, powD, cmpD, ordD, bl, isD, inD, ipD, ixD, iSeq, iR1, iR2, iR3, iEnu, iZipD, seqD, vLc, cYes, noX, setS, stB, setTg, stIn, entry, outP, outI, ioAt, R.bind, R.fl, Fl.seq, Vl.dat, Vl.sl, ift, vLenV, lcGo, wipeR, restR, keepS, hb, hp, rD, L2.atI, L2.ixN]
theorem ndT_cg (c : Int) : ∀ {l m : List Int}, l.length = m.length → Cg p (vec (ndT p c l m)) (fun i => 1 * vec l i + c * vec m i)
  | [], [], _ => fun i => ⟨0, by simp [vec, ndT]⟩
  | a :: l, b :: m, h => fun i => by
    cases i with
    | zero =>
      show p ∣ (a + c * b) % p - (1 * a + c * b)
      exact ⟨-((a + c * b) / p), by have := Int.mul_ediv_add_emod (a + c * b) p; grind⟩
    | succ i => exact ndT_cg c (l := l) (m := m) (by simpa using h) i
theorem ndH_cg (t : Int) : ∀ {l m : List Int}, l.length = m.length → Cg p (vec (ndH p t l m)) (fun i => 1 * vec l i + (-t) * vec m i)
  | [], [], _ => fun i => ⟨0, by simp [vec, ndH]⟩
  | a :: l, b :: m, h => fun i => by
    cases i with
    | zero =>
      show p ∣ (a - t * b) % p - (1 * a + (-t) * b)
      exact ⟨-((a - t * b) / p), by have := Int.mul_ediv_add_emod (a - t * b) p; grind⟩
    | succ i => exact ndH_cg t (l := l) (m := m) (by simpa using h) i
theorem shift_vec {H : List Int} (hH : H.length = f.length) (hn : 0 < f.length) : (fun i => 1 * vec (0 :: H.take (f.length - 1)) i + (-(H.getD (f.length - 1) 0)) * vec f i) = Pm.S f.length (vec f) (vec H) := by
  funext i
  unfold Pm.S
  by_cases hi : i < f.length
  · rw [if_pos hi]
    cases i with
    | zero =>
      simp [vec]
      grind
    | succ i =>
      have e : vec (0 :: H.take (f.length - 1)) (i + 1) = vec H i := by
        simp [vec, List.getD_eq_getElem?_getD, List.getElem?_take]
        rw [if_pos (by omega)]
      rw [e]
      simp [vec]
      grind
  · rw [if_neg hi]
    have e1 : vec (0 :: H.take (f.length - 1)) i = 0 := vec_low i (by simp; omega)
    have e2 : vec f i = 0 := vec_low i (by omega)
    rw [e1, e2]
    simp
/-- a list, the slot's own or frozen -/
def Ow (s : Sl) (l : List Int) : Prop := s = .own (iL l) ∨ s = .val (.lst (iL l))
theorem cut_but_last {H : List Int} {n : Nat} (h : H.length = n) (hn : 0 < n) : cutD (iL H) none (some (-1)) = iL (H.take (n - 1)) := by
  have e2 : HT.sIx H.length H.length (some (-1)) = n - 1 := by
    show (if (-1 : Int) < 0 then ((-1 : Int) + (H.length : Int)).toNat else min (-1 : Int).toNat H.length) = n - 1
    rw [if_pos (by decide)]
    omega
  unfold cutD
  rw [iL_len, e2]
  simp [HT.sIx]
theorem last_at {H : List Int} {n : Nat} (h : H.length = n) (hn : 0 < n) : L2.atI (iL H) (-1) = some (.int (H.getD (n - 1) 0)) := by
  have e : L2.ixN (iL H).length (-1) = some (n - 1) := by
    unfold L2.ixN
    rw [if_neg (by decide), iL_len, if_pos (by omega)]
    congr 1
    omega
  unfold L2.atI
  rw [e]
  have h2 : n - 1 < H.length := by omega
  simp [iL, h2]
theorem ndT_len (c : Int) {l m : List Int} (h : l.length = m.length) : (ndT p c l m).length = m.length := by simp [ndT, h]
theorem ndH_len (t : Int) {l m : List Int} (h : l.length = m.length) : (ndH p t l m).length = m.length := by simp [ndH, h]
theorem here_step (r : Rg p f) (q1 q2 s3 s4 s6 : Sl) (T H : List Int) (c : Int) (hc : smI c = true) (hT : T.length = f.length) (hH : H.length = f.length) (h3 : Ow s3 T) (h4 : Ow s4 H) (h6 : Fr s6) :
    cb_law_product_here_b3 [.val (rD p f), q1, q2, s3, s4, .val (.int c), s6, .un, .un, .un] = .nx [.val (rD p f), q1, q2, .own (iL (ndT p c T H)), .own (iL (ndH p (H.getD (f.length - 1) 0) (0 :: H.take (f.length - 1)) f)), .val (.int c), .val (.int (H.getD (f.length - 1) 0)), .un, .un, .un] := by
  have hp : 0 < p := by have := r.p2; omega
  have n1 := r.n1
  have n5 := r.n5
  have l1 := fun q1 q2 q3 q4 q6 q9 => hereT_loop (f := f) hp q1 q2 q3 q4 q6 q9 c hc T H
  have l2 := fun q1 q2 q3 q4 q5 q8 => hereH_loop (f := f) hp q1 q2 q3 q4 q5 q8 (H.getD (f.length - 1) 0) (0 :: H.take (f.length - 1)) f (sm_of r.p31 r.fc)
  have z1 := zipL_le (iL T) (iL H) (by simp; omega)
  have z2 := zipL_le (iL (0 :: H.take (f.length - 1))) (iL f) (by simp; omega)
  have c1 := cut_but_last hH (by omega)
  have c2 := last_at hH (by omega)
  generalize H.getD (f.length - 1) 0 = t at c2 l2 ⊢
  rw [iL_cons] at l2 z2
  unfold lim at z1 z2
  have z3 : 1 + min (f.length - 1) H.length ≤ 100000 := by omega
  have e0 : L2.atI [D.int p, D.tup (iL f)] 1 = some (.tup (iL f)) := rfl
  simp only [rD] at l1 l2
  rcases h3 with rfl | rfl <;> rcases h4 with rfl | rfl <;> rcases h6 with rfl | ⟨d6, rfl⟩ <;>
  · simp [cb_law_product_here_b3, sq, fAsg, fAsgT, fPar, fPar3, fIf, fRet, fExpr, fRaise, fFor, fAug, fApp, fExt, fAugIx, fSetIx, sD, asD, rVar, rCon, bin2, lift, chn, tru, truV, vAnd, vOr, vNot, vNeg, negD, fAnd, fOr, fNot, vIte, dTup, dLst, aNil, aCons, gIxv, rIxv, hasV, vSl, slD, oNone, oSome, vRev, revD, callP, callI, ioOf, vBlt, bltD, vIsi, isiT, opD, addD, subD, mulD, fdivD, modD, powD, cmpD, ordD, bl, isD, inD, ipD, ixD, iSeq, iR1, iR2, iR3, iEnu, iZipD, seqD, vLc, cYes, noX, setS, stB, setTg, stIn, entry, outP, outI, ioAt, R.bind, R.fl, Fl.seq, Vl.dat, Vl.sl, ift, vLenV, wipeR, restR, keepS, hasV, lim, rD]
    rw [if_pos z1, l1]
    simp [c1, c2, z3, e0]
    rw [if_pos z2, l2]
    simp
theorem here_loop (r : Rg p f) (q1 q2 : Sl) : ∀ (ys T H : List Int) (s3 s4 s5 s6 : Sl), (∀ c ∈ ys, smI c = true) → T.length = f.length → H.length = f.length → Ow s3 T → Ow s4 H → Fr s5 → Fr s6 → ∃ T' t3 t4 t5 t6, Ow t3 T' ∧ T'.length = f.length ∧
    Cg p (vec T') (fun i => 1 * vec T i + 1 * P f.length (vec f) ys (vec H) i) ∧
    forGo (.n 5) cb_law_product_here_b3 (iL ys) [.val (rD p f), q1, q2, s3, s4, s5, s6, .un, .un, .un] = .nx [.val (rD p f), q1, q2, t3, t4, t5, t6, .un, .un, .un]
  | [], T, H, s3, s4, s5, s6, hy, hT, hH, h3, h4, h5, h6 => by
    refine ⟨T, s3, s4, s5, s6, h3, hT, .of_eq ?_, rfl⟩
    funext i
    show _ = 1 * vec T i + 1 * 0
    omega
  | c :: ys, T, H, s3, s4, s5, s6, hy, hT, hH, h3, h4, h5, h6 => by
    have n1 := r.n1
    have st := here_step r q1 q2 s3 s4 s6 T H c (hy c List.mem_cons_self) hT hH h3 h4 h6
    have hH2 : (0 :: H.take (f.length - 1)).length = f.length := by simp; omega
    obtain ⟨T', t3, t4, t5, t6, a1, a2, a3, e⟩ := here_loop r q1 q2 ys (ndT p c T H) (ndH p (H.getD (f.length - 1) 0) (0 :: H.take (f.length - 1)) f) (.own _) (.own _) (.val (.int c)) (.val _) (fun b hb => hy b (List.mem_cons_of_mem _ hb)) (by rw [ndT_len c (by omega)]; exact hH) (ndH_len _ hH2) (.inl rfl) (.inl rfl) (.val _) (.val (.int (H.getD (f.length - 1) 0)))
    refine ⟨T', t3, t4, t5, t6, a1, a2, a3.trans ?_, ?_⟩
    · have g1 : Cg p (vec (ndT p c T H)) (fun i => 1 * vec T i + c * vec H i) := ndT_cg c (by omega)
      have g2 : Cg p (vec (ndH p (H.getD (f.length - 1) 0) (0 :: H.take (f.length - 1)) f)) (Pm.S f.length (vec f) (vec H)) := (ndH_cg _ hH2).trans (.of_eq (shift_vec hH (by omega)))
      refine (Cg.lin 1 1 g1 (cg_P ys g2)).trans (.of_eq ?_)
      funext i
      show 1 * (1 * vec T i + c * vec H i) + 1 * P f.length (vec f) ys (Pm.S f.length (vec f) (vec H)) i = 1 * vec T i + 1 * (c * vec H i + P f.length (vec f) ys (Pm.S f.length (vec f) (vec H)) i)
      omega
    · rw [iL_cons, go_cons (ρ1 := [.val (rD p f), q1, q2, s3, s4, .val (.int c), s6, .un, .un, .un]) _ st, e]
      rcases h5 with rfl | ⟨d7, rfl⟩ <;> simp [sq, fAsg, fAsgT, fPar, fPar3, fIf, fRet, fExpr, fRaise, fFor, fAug, fApp, fExt, fAugIx, fSetIx, sD, asD, rVar, rCon, bin2, lift, chn, tru, truV, vAnd, vOr, vNot, vNeg, negD, fAnd, fOr, fNot, vIte, dTup, dLst, aNil, aCons, gIxv, rIxv, hasV, vSl, slD, oNone, oSome, vRev, revD, callP, callI, ioOf, vBlt, bltD, vIsi, isiT, opD, addD, subD, mulD, fdivD, modD, powD, cmpD, ordD, bl, isD, inD, ipD, ixD, iSeq, iR1, iR2, iR3, iEnu, iZipD, seqD, vLc, cYes, noX, setS, stB, setTg, stIn, entry, outP, outI, ioAt, R.bind, R.fl, Fl.seq, Vl.dat, Vl.sl, ift, vLenV, lcGo, wipeR, restR, keepS]
theorem zero_loop (ring x y : D) (s3 s4 s5 s6 s8 s9 : Sl) : ∀ (l : List D), lcGo (.n 7) cYes cb_law_product_here_e4 [7] l [.val ring, .val x, .val y, s3, s4, s5, s6, .un, s8, s9] = .ok (iL (List.replicate l.length 0)) [.val ring, .val x, .val y, s3, s4, s5, s6, .un, s8, s9]
  | [] => by simp [lcGo]
  | a :: l => by
    have ih := zero_loop ring x y s3 s4 s5 s6 s8 s9 l
    rw [lc_cons (ρ1 := [.val ring, .val x, .val y, s3, s4, s5, s6, .val a, s8, s9]) (x := .int 0) (ρ2 := [.val ring, .val x, .val y, s3, s4, s5, s6, .val a, s8, s9])]
    · simp only [wipeR, List.set_cons_succ, List.set_cons_zero]
      rw [ih]
      simp [R.bind, List.replicate_succ]
    · simp [sq, fAsg, fAsgT, fPar, fPar3, fIf, fRet, fExpr, fRaise, fFor, fAug, fApp, fExt, fAugIx, fSetIx, sD, asD, rVar, rCon, bin2, lift, chn, tru, truV, vAnd, vOr, vNot, vNeg, negD, fAnd, fOr, fNot, vIte, dTup, dLst, aNil, aCons, gIxv, rIxv, hasV, vSl, slD, oNone, oSome, vRev, revD, callP, callI, ioOf, vBlt, bltD, vIsi, isiT, opD, addD, subD, mulD, fdivD, modD, powD, cmpD, ordD, bl, isD, inD, ipD, ixD, iSeq, iR1, iR2, iR3, iEnu, iZipD, seqD, vLc, cYes, noX, setS, stB, setTg, stIn, entry, outP, outI, ioAt, R.bind, R.fl, Fl.seq, Vl.dat, Vl.sl, ift, vLenV, lcGo, wipeR, restR, keepS]
    · simp [cb_law_product_here_e4, sq, fAsg, fAsgT, fPar, fPar3, fIf, fRet, fExpr, fRaise, fFor, fAug, fApp, fExt, fAugIx, fSetIx, sD, asD, rVar, rCon, bin2, lift, chn, tru, truV, vAnd, vOr, vNot, vNeg, negD, fAnd, fOr, fNot, vIte, dTup, dLst, aNil, aCons, gIxv, rIxv, hasV, vSl, slD, oNone, oSome, vRev, revD, callP, callI, ioOf, vBlt, bltD, vIsi, isiT, opD, addD, subD, mulD, fdivD, modD, powD, cmpD, ordD, bl, isD, inD, ipD, ixD, iSeq, iR1, iR2, iR3, iEnu, iZipD, seqD, vLc, cYes, noX, setS, stB, setTg, stIn, entry, outP, outI, ioAt, R.bind, R.fl, Fl.seq, Vl.dat, Vl.sl, ift, vLenV, lcGo, wipeR, restR, keepS]
theorem product_here_ok (r : Rg p f) (x y : Int) : cb_law_product_here [] [rD p f, .int x, .int y] = .ok (.int (mul p f x y)) [] := by
  have hp : 0 < p := by have := r.p2; omega
  have n1 := r.n1
  have n5 := r.n5
  have h1 := coefs_ok r x
  have h2 := coefs_ok r y
  have z := zero_loop (rD p f) (.int x) (.int y) .un .un .un .un .un .un (iL f)
  rw [iL_len] at z
  obtain ⟨T', t3, t4, t5, t6, a1, a2, a3, e⟩ := here_loop r (.val (.int x)) (.val (.int y)) (dig p f.length y) (List.replicate f.length 0) (dig p f.length x) (.own (iL (List.replicate f.length 0))) (.val (.lst (iL (dig p f.length x)))) .un .un (sm_of r.p31 (dig_range hp _ _)) (by simp) (dig_len ..) (.inl rfl) (.inr rfl) .un .un
  have fin : cod p T' = mul p f x y := by
    refine cod_cg (by rw [lst_len, a2]) (a3.trans (.of_eq ?_))
    rw [vec_lst (P_low _ _ (fi_low x))]
    funext i
    have e : vec (List.replicate f.length 0) i = 0 := by
      simp [vec, List.getD_eq_getElem?_getD, List.getElem?_replicate]
      split <;> rfl
    rw [e]
    show 1 * 0 + 1 * P _ _ _ _ i = P _ _ _ _ i
    unfold fi
    omega
  have h3 := code_ok r T'
  rw [fin] at h3
  have e0 : L2.atI [D.int p, D.tup (iL f)] 1 = some (.tup (iL f)) := rfl
  have z1 : f.length ≤ 100000 := by omega
  simp only [rD] at h1 h2 h3 z e
  simp [cb_law_product_here, sq, fAsg, fAsgT, fPar, fPar3, fIf, fRet, fExpr, fRaise, fFor, fAug, fApp, fExt, fAugIx, fSetIx, sD, asD, rVar, rCon, bin2, lift, chn, tru, truV, vAnd, vOr, vNot, vNeg, negD, fAnd, fOr, fNot, vIte, dTup, dLst, aNil, aCons, gIxv, rIxv, hasV, vSl, slD, oNone, oSome, vRev, revD, callP, callI, ioOf, vBlt, bltD, vIsi, isiT, opD, addD, subD, mulD, fdivD, modD, powD, cmpD, ordD, bl, isD, inD, ipD, ixD, iSeq, iR1, iR2, iR3, iEnu, iZipD, seqD, vLc, cYes, noX, setS, stB, setTg, stIn, entry, outP, outI, ioAt, R.bind, R.fl, Fl.seq, Vl.dat, Vl.sl, ift, vLenV, wipeR, restR, keepS, lim, rD, e0, z1]
  rw [z]
  simp [h1, h2]
  rw [e]
  rcases a1 with rfl | rfl <;> simp [h3]
end
end PF
end
section
namespace PF
open PySem Pm
section
variable {p : Int} {f : List Int}
theorem eqG_int (i j : Int) : eqG (.int i) (.int j) = some (decide (i = j)) := by
  have e : eqG (.int i) (.int j) = some (i == j) := rfl
  rw [e]
  congr 1
theorem cly_ints : ∀ l : List Int, PyData.canLayAll0 (D.pys (iL l)) = true ∧ PyData.depthAll (D.pys (iL l)) = 0
  | [] => ⟨rfl, rfl⟩
  | a :: l => by
    obtain ⟨h1, h2⟩ := cly_ints l
    constructor
    · show (PyData.canLay0 (.int a) && PyData.canLayAll0 (D.pys (iL l))) = true
      rw [h1]
      rfl
    · show max (PyData.depth (.int a)) (PyData.depthAll (D.pys (iL l))) = 0
      rw [h2]
      rfl
theorem shp_lst (l : List Int) : SeqAt.shaped (D.lst (iL l)).py = true := by
  obtain ⟨h1, h2⟩ := cly_ints l
  have e1 : PyData.canLay0 (.list (D.pys (iL l))) = true := by unfold PyData.canLay0; exact h1
  have e2 : PyData.depth (.list (D.pys (iL l))) = 1 := by unfold PyData.depth; rw [h2]
  show (PyData.canLay0 (.list (D.pys (iL l))) && decide (PyData.depth (.list (D.pys (iL l))) ≤ 64)) = true
  rw [e1, e2]
  rfl
theorem shp_tup (l : List Int) : SeqAt.shaped (D.tup (iL l)).py = true := by
  obtain ⟨h1, h2⟩ := cly_ints l
  have e1 : PyData.canLay0 (.tuple (D.pys (iL l))) = true := by unfold PyData.canLay0; exact h1
  have e2 : PyData.depth (.tuple (D.pys (iL l))) = 1 := by unfold PyData.depth; rw [h2]
  show (PyData.canLay0 (.tuple (D.pys (iL l))) && decide (PyData.depth (.tuple (D.pys (iL l))) ≤ 64)) = true
  rw [e1, e2]
  rfl
theorem pys_scr (ns : List Int) : (D.scr ns).py = (D.lst (iL ns)).py := by
  show PyData.list (ns.map PyData.int) = PyData.list (D.pys (iL ns))
  congr 1
  induction ns with
  | nil => rfl
  | cons a l ih =>
    show _ :: _ = _ :: _
    rw [ih]
    rfl
theorem eqv_ints : ∀ l m : List Int, PyData.eqvAll (D.pys (iL l)) (D.pys (iL m)) = decide (l = m)
  | [], [] => rfl
  | [], _ :: _ => rfl
  | _ :: _, [] => rfl
  | a :: l, b :: m => by
    show (PyData.eqv (.int a) (.int b) && PyData.eqvAll (D.pys (iL l)) (D.pys (iL m))) = _
    rw [eqv_ints l m]
    have e : PyData.eqv (.int a) (.int b) = decide (a = b) := by
      have : PyData.eqv (.int a) (.int b) = (a == b) := rfl
      rw [this, Bool.eq_iff_iff]
      simp
    rw [e]
    simp
theorem eqG_lst (l m : List Int) : eqG (.lst (iL l)) (.lst (iL m)) = some (decide (l = m)) := by
  have e : PyData.eqv (D.lst (iL l)).py (D.lst (iL m)).py = decide (l = m) := by
    show PyData.eqv (.list _) (.list _) = _
    unfold PyData.eqv
    exact eqv_ints l m
  unfold eqG
  rw [shp_lst, shp_lst, e]
  rfl
theorem eqG_tup (l m : List Int) : eqG (.tup (iL l)) (.tup (iL m)) = some (decide (l = m)) := by
  have e : PyData.eqv (D.tup (iL l)).py (D.tup (iL m)).py = decide (l = m) := by
    show PyData.eqv (.tuple _) (.tuple _) = _
    unfold PyData.eqv
    exact eqv_ints l m
  unfold eqG
  rw [shp_tup, shp_tup, e]
  rfl
theorem eqG_scr (ns : List Int) : eqG (.scr ns) (.lst []) = some (decide (ns = [])) := by
  have e : eqG (.scr ns) (.lst []) = eqG (.lst (iL ns)) (.lst (iL [])) := by
    unfold eqG
    rw [pys_scr]
    rfl
  rw [e, eqG_lst]
/-! is_ring, the checks -/
theorem ring_loop (hp2 : p ≤ 31) (q0 q2 : Sl) : ∀ (l : List Int), (∀ a ∈ l, 0 ≤ a ∧ a < p) → lcGo (.n 3) cYes cb_is_ring_e1 [3] (iL l) [q0, .val (.int p), q2, .un] = .ok (List.replicate l.length (.bool true)) [q0, .val (.int p), q2, .un]
  | [], _ => by simp [lcGo]
  | a :: l, h => by
    have ih := ring_loop hp2 q0 q2 l fun b hb => h b (List.mem_cons_of_mem _ hb)
    have h2 := is_integer_int a 0 (p - 1)
    have e : (decide (0 ≤ a) && decide (a ≤ p - 1)) = true := by
      have := h a List.mem_cons_self
      simp
      omega
    rw [e] at h2
    rw [iL_cons, lc_cons (ρ1 := [q0, .val (.int p), q2, .val (.int a)]) (x := .bool true) (ρ2 := [q0, .val (.int p), q2, .val (.int a)])]
    · simp only [wipeR, List.set_cons_succ, List.set_cons_zero]
      rw [ih]
      simp [R.bind, List.replicate_succ]
    · simp [sq, fAsg, fAsgT, fPar, fPar3, fIf, fRet, fExpr, fRaise, fFor, fAug, fApp, fExt, fAugIx, fSetIx, sD, asD, rVar, rCon, bin2, lift, chn, tru, truV, vAnd, vOr, vNot, vNeg, negD, fAnd, fOr, fNot, vIte, dTup, dLst, aNil, aCons, gIxv, rIxv, hasV, vSl, slD, oNone, oSome, vRev, revD, callP, callI, ioOf, vBlt, bltD, vIsi, isiT, opD, addD, subD, mulD, fdivD, modD, powD, cmpD, ordD, bl, isD, inD, ipD, ixD, iSeq, iR1, iR2, iR3, iEnu, iZipD, seqD, vLc, cYes, noX, setS, stB, setTg, stIn, entry, outP, outI, ioAt, R.bind, R.fl, Fl.seq, Vl.dat, Vl.sl, ift, vLenV, lcGo, wipeR, restR, keepS]
    · simp [cb_is_ring_e1, sq, fAsg, fAsgT, fPar, fPar3, fIf, fRet, fExpr, fRaise, fFor, fAug, fApp, fExt, fAugIx, fSetIx, sD, asD, rVar, rCon, bin2, lift, chn, tru, truV, vAnd, vOr, vNot, vNeg, negD, fAnd, fOr, fNot, vIte, dTup, dLst, aNil, aCons, gIxv, rIxv, hasV, vSl, slD, oNone, oSome, vRev, revD, callP, callI, ioOf, vBlt, bltD, vIsi, isiT, opD, addD, subD, mulD, fdivD, modD, powD, cmpD, ordD, bl, isD, inD, ipD, ixD, iSeq, iR1, iR2, iR3, iEnu, iZipD, seqD, vLc, cYes, noX, setS, stB, setTg, stIn, entry, outP, outI, ioAt, R.bind, R.fl, Fl.seq, Vl.dat, Vl.sl, ift, vLenV, lcGo, wipeR, restR, keepS, h2]
theorem all_true (n : Nat) : asBls (List.replicate n (.bool true)) = some (List.replicate n true) := by
  induction n with
  | zero => rfl
  | succ n ih =>
    rw [List.replicate_succ, List.replicate_succ]
    show (asBls _).map _ = _
    rw [ih]
    rfl
theorem is_ring_ok (r : Rg p f) : cb_is_ring [] [rD p f] = .ok (.bool true) [] := by
  have hp : 0 < p := by have := r.p2; omega
  have n1 := r.n1
  have n5 := r.n5
  have h1 := is_integer_int p 2 31
  have e1 : (decide (2 ≤ p) && decide (p ≤ 31)) = true := by
    have := r.p2
    have := r.p31
    simp
    omega
  rw [e1] at h1
  have h2 := times_itself_ok hp r.p31 f.length (by omega)
  have h3 := ring_loop r.p31 (.val (.tup [.int p, .tup (iL f)])) (.val (.tup (iL f))) f r.fc
  have hpr := r.pr
  have hq := r.q32
  have a1 : asInts [.int 2, .int 3, .int 5, .int 7, .int 11, .int 13, .int 17, .int 19, .int 23, .int 29, .int 31] = some [2, 3, 5, 7, 11, 13, 17, 19, 23, 29, 31] := rfl
  have e2 : (1 : Int) ≤ (f.length : Int) ∧ (f.length : Int) ≤ 5 := by omega
  have e3 : f.length ≤ 100000 := by omega
  have hpr2 : ¬ (¬p = 2 ∧ ¬p = 3 ∧ ¬p = 5 ∧ ¬p = 7 ∧ ¬p = 11 ∧ ¬p = 13 ∧ ¬p = 17 ∧ ¬p = 19 ∧ ¬p = 23 ∧ ¬p = 29 ∧ ¬p = 31) := by
    simp at hpr
    omega
  simp [cb_is_ring, sq, fAsg, fAsgT, fPar, fPar3, fIf, fRet, fExpr, fRaise, fFor, fAug, fApp, fExt, fAugIx, fSetIx, sD, asD, rVar, rCon, bin2, lift, chn, tru, truV, vAnd, vOr, vNot, vNeg, negD, fAnd, fOr, fNot, vIte, dTup, dLst, aNil, aCons, gIxv, rIxv, hasV, vSl, slD, oNone, oSome, vRev, revD, callP, callI, ioOf, vBlt, bltD, vIsi, isiT, opD, addD, subD, mulD, fdivD, modD, powD, cmpD, ordD, bl, isD, inD, ipD, ixD, iSeq, iR1, iR2, iR3, iEnu, iZipD, seqD, vLc, cYes, noX, setS, stB, setTg, stIn, entry, outP, outI, ioAt, R.bind, R.fl, Fl.seq, Vl.dat, Vl.sl, ift, vLenV, wipeR, restR, keepS, rD, lim, h1, a1, e2, eqG_int]
  rw [if_neg hpr2]
  simp [h2, hq]
  rw [if_pos e3, h3]
  simp [all_true]
theorem check_ring_ok (r : Rg p f) : cb_check_ring [] [rD p f] = .ok .none [] := by
  have h := is_ring_ok r
  simp [cb_check_ring, sq, fAsg, fAsgT, fPar, fPar3, fIf, fRet, fExpr, fRaise, fFor, fAug, fApp, fExt, fAugIx, fSetIx, sD, asD, rVar, rCon, bin2, lift, chn, tru, truV, vAnd, vOr, vNot, vNeg, negD, fAnd, fOr, fNot, vIte, dTup, dLst, aNil, aCons, gIxv, rIxv, hasV, vSl, slD, oNone, oSome, vRev, revD, callP, callI, ioOf, vBlt, bltD, vIsi, isiT, opD, addD, subD, mulD, fdivD, modD, powD, cmpD, ordD, bl, isD, inD, ipD, ixD, iSeq, iR1, iR2, iR3, iEnu, iZipD, seqD, vLc, cYes, noX, setS, stB, setTg, stIn, entry, outP, outI, ioAt, R.bind, R.fl, Fl.seq, Vl.dat, Vl.sl, ift, vLenV, wipeR, restR, keepS, h]
theorem size_ok (r : Rg p f) : cb_size [] [rD p f] = .ok (.int (p ^ f.length)) [] := by
  have h := check_ring_ok r
  have h2 := size_of_ok r
  simp [cb_size, sq, fAsg, fAsgT, fPar, fPar3, fIf, fRet, fExpr, fRaise, fFor, fAug, fApp, fExt, fAugIx, fSetIx, sD, asD, rVar, rCon, bin2, lift, chn, tru, truV, vAnd, vOr, vNot, vNeg, negD, fAnd, fOr, fNot, vIte, dTup, dLst, aNil, aCons, gIxv, rIxv, hasV, vSl, slD, oNone, oSome, vRev, revD, callP, callI, ioOf, vBlt, bltD, vIsi, isiT, opD, addD, subD, mulD, fdivD, modD, powD, cmpD, ordD, bl, isD, inD, ipD, ixD, iSeq, iR1, iR2, iR3, iEnu, iZipD, seqD, vLc, cYes, noX, setS, stB, setTg, stIn, entry, outP, outI, ioAt, R.bind, R.fl, Fl.seq, Vl.dat, Vl.sl, ift, vLenV, wipeR, restR, keepS, h, h2]
theorem check_two_ok (r : Rg p f) {x y : Int} (hx : El p f x) (hy : El p f y) : cb_check_two [] [rD p f, .int x, .int y] = .ok .none [] := by
  have h := check_ring_ok r
  have h2 := check_element_ok r hx
  have h3 := check_element_ok r hy
  simp [cb_check_two, sq, fAsg, fAsgT, fPar, fPar3, fIf, fRet, fExpr, fRaise, fFor, fAug, fApp, fExt, fAugIx, fSetIx, sD, asD, rVar, rCon, bin2, lift, chn, tru, truV, vAnd, vOr, vNot, vNeg, negD, fAnd, fOr, fNot, vIte, dTup, dLst, aNil, aCons, gIxv, rIxv, hasV, vSl, slD, oNone, oSome, vRev, revD, callP, callI, ioOf, vBlt, bltD, vIsi, isiT, opD, addD, subD, mulD, fdivD, modD, powD, cmpD, ordD, bl, isD, inD, ipD, ixD, iSeq, iR1, iR2, iR3, iEnu, iZipD, seqD, vLc, cYes, noX, setS, stB, setTg, stIn, entry, outP, outI, ioAt, R.bind, R.fl, Fl.seq, Vl.dat, Vl.sl, ift, vLenV, wipeR, restR, keepS, h, h2, h3]
theorem add_ok (r : Rg p f) {x y : Int} (hx : El p f x) (hy : El p f y) : cb_add [] [rD p f, .int x, .int y] = .ok (.int (add p f x y)) [] := by
  have h := check_two_ok r hx hy
  have h2 := plus_ok r x y
  simp [cb_add, sq, fAsg, fAsgT, fPar, fPar3, fIf, fRet, fExpr, fRaise, fFor, fAug, fApp, fExt, fAugIx, fSetIx, sD, asD, rVar, rCon, bin2, lift, chn, tru, truV, vAnd, vOr, vNot, vNeg, negD, fAnd, fOr, fNot, vIte, dTup, dLst, aNil, aCons, gIxv, rIxv, hasV, vSl, slD, oNone, oSome, vRev, revD, callP, callI, ioOf, vBlt, bltD, vIsi, isiT, opD, addD, subD, mulD, fdivD, modD, powD, cmpD, ordD, bl, isD, inD, ipD, ixD, iSeq, iR1, iR2, iR3, iEnu, iZipD, seqD, vLc, cYes, noX, setS, stB, setTg, stIn, entry, outP, outI, ioAt, R.bind, R.fl, Fl.seq, Vl.dat, Vl.sl, ift, vLenV, wipeR, restR, keepS, h, h2]
theorem multiply_ok (r : Rg p f) {x y : Int} (hx : El p f x) (hy : El p f y) : cb_multiply [] [rD p f, .int x, .int y] = .ok (.int (mul p f x y)) [] := by
  have h := check_two_ok r hx hy
  have h2 := times_ok r x y
  simp [cb_multiply, sq, fAsg, fAsgT, fPar, fPar3, fIf, fRet, fExpr, fRaise, fFor, fAug, fApp, fExt, fAugIx, fSetIx, sD, asD, rVar, rCon, bin2, lift, chn, tru, truV, vAnd, vOr, vNot, vNeg, negD, fAnd, fOr, fNot, vIte, dTup, dLst, aNil, aCons, gIxv, rIxv, hasV, vSl, slD, oNone, oSome, vRev, revD, callP, callI, ioOf, vBlt, bltD, vIsi, isiT, opD, addD, subD, mulD, fdivD, modD, powD, cmpD, ordD, bl, isD, inD, ipD, ixD, iSeq, iR1, iR2, iR3, iEnu, iZipD, seqD, vLc, cYes, noX, setS, stB, setTg, stIn, entry, outP, outI, ioAt, R.bind, R.fl, Fl.seq, Vl.dat, Vl.sl, ift, vLenV, wipeR, restR, keepS, h, h2]
theorem negative_ok (r : Rg p f) {x : Int} (hx : El p f x) : cb_negative [] [rD p f, .int x] = .ok (.int (neg p f x)) [] := by
  have h := check_ring_ok r
  have h2 := check_element_ok r hx
  have h3 := minus_ok r x
  simp [cb_negative, sq, fAsg, fAsgT, fPar, fPar3, fIf, fRet, fExpr, fRaise, fFor, fAug, fApp, fExt, fAugIx, fSetIx, sD, asD, rVar, rCon, bin2, lift, chn, tru, truV, vAnd, vOr, vNot, vNeg, negD, fAnd, fOr, fNot, vIte, dTup, dLst, aNil, aCons, gIxv, rIxv, hasV, vSl, slD, oNone, oSome, vRev, revD, callP, callI, ioOf, vBlt, bltD, vIsi, isiT, opD, addD, subD, mulD, fdivD, modD, powD, cmpD, ordD, bl, isD, inD, ipD, ixD, iSeq, iR1, iR2, iR3, iEnu, iZipD, seqD, vLc, cYes, noX, setS, stB, setTg, stIn, entry, outP, outI, ioAt, R.bind, R.fl, Fl.seq, Vl.dat, Vl.sl, ift, vLenV, wipeR, restR, keepS, h, h2, h3]
/-! powers -/
theorem pw_two (hp : 1 < p) (hn : 0 < f.length) {x : Int} (hx : El p f x) : pw p f x 2 = mul p f x x := by
  show mul p f (mul p f 1 x) x = _
  rw [one_mul hp hn hx]
theorem wh_true {c : Rho → R Bool} {b : Rho → Fl} {n : Nat} {ρ ρ1 ρ2 : Rho} (h : c ρ = .ok true ρ1) (h2 : b ρ1 = .nx ρ2) : whGo c b (n + 1) ρ = whGo c b n ρ2 := by
  show (c ρ).fl _ = _
  rw [h]
  show (b ρ1).seq _ = _
  rw [h2]
  rfl
theorem wh_false {c : Rho → R Bool} {b : Rho → Fl} {n : Nat} {ρ ρ1 : Rho} (h : c ρ = .ok false ρ1) : whGo c b (n + 1) ρ = .nx ρ1 := by
  show (c ρ).fl _ = _
  rw [h]
  rfl
theorem raised_loop (r : Rg p f) : ∀ (n : Nat) (e : Nat) (x res : Int), El p f x → El p f res → e < 2 ^ n → ∃ x', whGo cb_raised_c1 cb_raised_b2 (n + 1) [.val (rD p f), .val (.int x), .val (.int e), .val (.int res)] = .nx [.val (rD p f), .val (.int x'), .val (.int 0), .val (.int (mul p f res (pw p f x e)))]
  | 0, e, x, res, hx, hr, he => by
    have hp : 1 < p := by have := r.p2; omega
    have e0 : e = 0 := by simpa using he
    subst e0
    refine ⟨x, ?_⟩
    have : mul p f res (pw p f x 0) = res := mul_one hp (by have := r.n1; omega) hr
    rw [this, wh_false]
    simp [cb_raised_c1, sq, fAsg, fAsgT, fPar, fPar3, fIf, fRet, fExpr, fRaise, fFor, fAug, fApp, fExt, fAugIx, fSetIx, sD, asD, rVar, rCon, bin2, lift, chn, tru, truV, vAnd, vOr, vNot, vNeg, negD, fAnd, fOr, fNot, vIte, dTup, dLst, aNil, aCons, gIxv, rIxv, hasV, vSl, slD, oNone, oSome, vRev, revD, callP, callI, ioOf, vBlt, bltD, vIsi, isiT, opD, addD, subD, mulD, fdivD, modD, powD, cmpD, ordD, bl, isD, inD, ipD, ixD, iSeq, iR1, iR2, iR3, iEnu, iZipD, seqD, vLc, cYes, noX, setS, stB, setTg, stIn, entry, outP, outI, ioAt, R.bind, R.fl, Fl.seq, Vl.dat, Vl.sl, ift, vLenV, lcGo, wipeR, restR, keepS]
  | n + 1, e, x, res, hx, hr, he => by
    have hp : 1 < p := by have := r.p2; omega
    have hp0 : 0 < p := by omega
    have hn : 0 < f.length := by have := r.n1; omega
    by_cases e0 : e = 0
    · subst e0
      refine ⟨x, ?_⟩
      have : mul p f res (pw p f x 0) = res := mul_one hp hn hr
      rw [this, wh_false]
      simp [cb_raised_c1, sq, fAsg, fAsgT, fPar, fPar3, fIf, fRet, fExpr, fRaise, fFor, fAug, fApp, fExt, fAugIx, fSetIx, sD, asD, rVar, rCon, bin2, lift, chn, tru, truV, vAnd, vOr, vNot, vNeg, negD, fAnd, fOr, fNot, vIte, dTup, dLst, aNil, aCons, gIxv, rIxv, hasV, vSl, slD, oNone, oSome, vRev, revD, callP, callI, ioOf, vBlt, bltD, vIsi, isiT, opD, addD, subD, mulD, fdivD, modD, powD, cmpD, ordD, bl, isD, inD, ipD, ixD, iSeq, iR1, iR2, iR3, iEnu, iZipD, seqD, vLc, cYes, noX, setS, stB, setTg, stIn, entry, outP, outI, ioAt, R.bind, R.fl, Fl.seq, Vl.dat, Vl.sl, ift, vLenV, lcGo, wipeR, restR, keepS]
    · have t1 := times_ok r x x
      have t2 := times_ok r res x
      have pos : (0 : Int) < (e : Int) := by omega
      have ed : ((e : Int) / 2) = ((e / 2 : Nat) : Int) := by omega
      by_cases odd : e % 2 = 1
      · have od : (e : Int) % 2 = 1 := by omega
        obtain ⟨x', ih⟩ := raised_loop r n (e / 2) (mul p f x x) (mul p f res x) (mul_el hp0 _ _) (mul_el hp0 _ _) (by rw [Nat.pow_succ] at he; omega)
        refine ⟨x', ?_⟩
        have fin : mul p f (mul p f res x) (pw p f (mul p f x x) (e / 2)) = mul p f res (pw p f x e) := by
          rw [← pw_two hp hn hx, ← pw_mul hp hn, mul_assoc hp0]
          congr 1
          have : e = 2 * (e / 2) + 1 := by omega
          conv => rhs; rw [this]
          show _ = mul p f (pw p f x (2 * (e / 2))) x
          rw [mul_comm hp0]
        rw [← fin, ← ih, wh_true (ρ1 := [.val (rD p f), .val (.int x), .val (.int e), .val (.int res)])]
        · simp [cb_raised_c1, sq, fAsg, fAsgT, fPar, fPar3, fIf, fRet, fExpr, fRaise, fFor, fAug, fApp, fExt, fAugIx, fSetIx, sD, asD, rVar, rCon, bin2, lift, chn, tru, truV, vAnd, vOr, vNot, vNeg, negD, fAnd, fOr, fNot, vIte, dTup, dLst, aNil, aCons, gIxv, rIxv, hasV, vSl, slD, oNone, oSome, vRev, revD, callP, callI, ioOf, vBlt, bltD, vIsi, isiT, opD, addD, subD, mulD, fdivD, modD, powD, cmpD, ordD, bl, isD, inD, ipD, ixD, iSeq, iR1, iR2, iR3, iEnu, iZipD, seqD, vLc, cYes, noX, setS, stB, setTg, stIn, entry, outP, outI, ioAt, R.bind, R.fl, Fl.seq, Vl.dat, Vl.sl, ift, vLenV, lcGo, wipeR, restR, keepS]
          omega
        · simp [cb_raised_b2, sq, fAsg, fAsgT, fPar, fPar3, fIf, fRet, fExpr, fRaise, fFor, fAug, fApp, fExt, fAugIx, fSetIx, sD, asD, rVar, rCon, bin2, lift, chn, tru, truV, vAnd, vOr, vNot, vNeg, negD, fAnd, fOr, fNot, vIte, dTup, dLst, aNil, aCons, gIxv, rIxv, hasV, vSl, slD, oNone, oSome, vRev, revD, callP, callI, ioOf, vBlt, bltD, vIsi, isiT, opD, addD, subD, mulD, fdivD, modD, powD, cmpD, ordD, bl, isD, inD, ipD, ixD, iSeq, iR1, iR2, iR3, iEnu, iZipD, seqD, vLc, cYes, noX, setS, stB, setTg, stIn, entry, outP, outI, ioAt, R.bind, R.fl, Fl.seq, Vl.dat, Vl.sl, ift, vLenV, lcGo, wipeR, restR, keepS, od, t1, t2, eqG_int]
      · have od : ¬ ((e : Int) % 2 = 1) := by omega
        obtain ⟨x', ih⟩ := raised_loop r n (e / 2) (mul p f x x) res (mul_el hp0 _ _) hr (by rw [Nat.pow_succ] at he; omega)
        refine ⟨x', ?_⟩
        have fin : mul p f res (pw p f (mul p f x x) (e / 2)) = mul p f res (pw p f x e) := by
          rw [← pw_two hp hn hx, ← pw_mul hp hn]
          congr 2
          omega
        rw [← fin, ← ih, wh_true (ρ1 := [.val (rD p f), .val (.int x), .val (.int e), .val (.int res)])]
        · simp [cb_raised_c1, sq, fAsg, fAsgT, fPar, fPar3, fIf, fRet, fExpr, fRaise, fFor, fAug, fApp, fExt, fAugIx, fSetIx, sD, asD, rVar, rCon, bin2, lift, chn, tru, truV, vAnd, vOr, vNot, vNeg, negD, fAnd, fOr, fNot, vIte, dTup, dLst, aNil, aCons, gIxv, rIxv, hasV, vSl, slD, oNone, oSome, vRev, revD, callP, callI, ioOf, vBlt, bltD, vIsi, isiT, opD, addD, subD, mulD, fdivD, modD, powD, cmpD, ordD, bl, isD, inD, ipD, ixD, iSeq, iR1, iR2, iR3, iEnu, iZipD, seqD, vLc, cYes, noX, setS, stB, setTg, stIn, entry, outP, outI, ioAt, R.bind, R.fl, Fl.seq, Vl.dat, Vl.sl, ift, vLenV, lcGo, wipeR, restR, keepS]
          omega
        · simp [cb_raised_b2, sq, fAsg, fAsgT, fPar, fPar3, fIf, fRet, fExpr, fRaise, fFor, fAug, fApp, fExt, fAugIx, fSetIx, sD, asD, rVar, rCon, bin2, lift, chn, tru, truV, vAnd, vOr, vNot, vNeg, negD, fAnd, fOr, fNot, vIte, dTup, dLst, aNil, aCons, gIxv, rIxv, hasV, vSl, slD, oNone, oSome, vRev, revD, callP, callI, ioOf, vBlt, bltD, vIsi, isiT, opD, addD, subD, mulD, fdivD, modD, powD, cmpD, ordD, bl, isD, inD, ipD, ixD, iSeq, iR1, iR2, iR3, iEnu, iZipD, seqD, vLc, cYes, noX, setS, stB, setTg, stIn, entry, outP, outI, ioAt, R.bind, R.fl, Fl.seq, Vl.dat, Vl.sl, ift, vLenV, lcGo, wipeR, restR, keepS, od, t1, eqG_int]
theorem raised_ok (r : Rg p f) {x : Int} (hx : El p f x) (e : Nat) (he : e < 2 ^ 60) : cb_raised [] [rD p f, .int x, .int e] = .ok (.int (pw p f x e)) [] := by
  have hp : 1 < p := by have := r.p2; omega
  have hn : 0 < f.length := by have := r.n1; omega
  obtain ⟨x', h⟩ := raised_loop r 99 e x 1 hx (el_one hp hn) (Nat.lt_of_lt_of_le he (by decide))
  rw [one_mul hp hn (pw_el hp hn x e)] at h
  simp only [sq, fAsg, fAsgT, fPar, fPar3, fIf, fRet, fExpr, fRaise, fFor, fAug, fApp, fExt, fAugIx, fSetIx, sD, asD, rVar, rCon, bin2, lift, chn, tru, truV, vAnd, vOr, vNot, vNeg, negD, fAnd, fOr, fNot, vIte, dTup, dLst, aNil, aCons, gIxv, rIxv, hasV, vSl, slD, oNone, oSome, vRev, revD, callP, callI, ioOf, vBlt, bltD, vIsi, isiT, opD, addD, subD, mulD, fdivD, modD, powD, cmpD, ordD, bl, isD, inD, ipD, ixD, iSeq, iR1, iR2, iR3, iEnu, iZipD, seqD, vLc, cYes, noX, setS, stB, setTg, stIn, entry, outP, outI, ioAt, R.bind, R.fl, Fl.seq, Vl.dat, Vl.sl, ift, vLenV, wipeR, restR, keepS, cb_raised]
  simp
  rw [h]
  rfl
theorem power_ok (r : Rg p f) {x : Int} (hx : El p f x) (e : Nat) (he : e ≤ 9999) : cb_power [] [rD p f, .int x, .int e] = .ok (.int (pw p f x e)) [] := by
  have h := check_ring_ok r
  have h2 := check_element_ok r hx
  have h3 := is_integer_int (e : Int) 0 9999
  have h4 := raised_ok r hx e (Nat.lt_of_le_of_lt he (by decide))
  have e1 : (decide ((0 : Int) ≤ (e : Int)) && decide ((e : Int) ≤ 9999)) = true := by
    simp
    omega
  rw [e1] at h3
  simp [cb_power, sq, fAsg, fAsgT, fPar, fPar3, fIf, fRet, fExpr, fRaise, fFor, fAug, fApp, fExt, fAugIx, fSetIx, sD, asD, rVar, rCon, bin2, lift, chn, tru, truV, vAnd, vOr, vNot, vNeg, negD, fAnd, fOr, fNot, vIte, dTup, dLst, aNil, aCons, gIxv, rIxv, hasV, vSl, slD, oNone, oSome, vRev, revD, callP, callI, ioOf, vBlt, bltD, vIsi, isiT, opD, addD, subD, mulD, fdivD, modD, powD, cmpD, ordD, bl, isD, inD, ipD, ixD, iSeq, iR1, iR2, iR3, iEnu, iZipD, seqD, vLc, cYes, noX, setS, stB, setTg, stIn, entry, outP, outI, ioAt, R.bind, R.fl, Fl.seq, Vl.dat, Vl.sl, ift, vLenV, wipeR, restR, keepS, h, h2, h3, h4]
end
end PF
end
section
namespace PF
open PySem Pm
/-! draws -/
section
theorem atI_in {α : Type} {l : List α} {i : Int} (h0 : 0 ≤ i) (h1 : i < l.length) : ∃ a, L2.atI l i = some a ∧ a ∈ l := by
  have e : L2.ixN l.length i = some i.toNat := by
    unfold L2.ixN
    rw [if_pos h0, if_pos h1]
  have h2 : i.toNat < l.length := by omega
  refine ⟨l[i.toNat], ?_, List.getElem_mem h2⟩
  unfold L2.atI
  rw [e]
  simp [h2]
theorem cell_loop (q0 q1 : Sl) : ∀ (ds : List D) (x : Int) (s : Sl), Fr s → ∃ x' s', forGo (.n 3) cb_law_cell_at_b1 ds [q0, q1, .val (.int x), s] = .nx [q0, q1, .val (.int x'), s']
  | [], x, s, hs => ⟨x, s, rfl⟩
  | d :: ds, x, s, hs => by
    obtain ⟨x', s', e⟩ := cell_loop q0 q1 ds (x / 1000003) (.val d) (.val d)
    refine ⟨x', s', ?_⟩
    rw [go_cons (ρ1 := [q0, q1, .val (.int x), .val d]) (ρ2 := [q0, q1, .val (.int (x / 1000003)), .val d]), e]
    · rcases hs with rfl | ⟨d', rfl⟩ <;> simp [sq, fAsg, fAsgT, fPar, fPar3, fIf, fRet, fExpr, fRaise, fFor, fAug, fApp, fExt, fAugIx, fSetIx, sD, asD, rVar, rCon, bin2, lift, chn, tru, truV, vAnd, vOr, vNot, vNeg, negD, fAnd, fOr, fNot, vIte, dTup, dLst, aNil, aCons, gIxv, rIxv, hasV, vSl, slD, oNone, oSome, vRev, revD, callP, callI, ioOf, vBlt, bltD, vIsi, isiT, opD, addD, subD, mulD, fdivD, modD, powD, cmpD, ordD, bl, isD, inD, ipD, ixD, iSeq, iR1, iR2, iR3, iEnu, iZipD, seqD, vLc, cYes, noX, setS, stB, setTg, stIn, entry, outP, outI, ioAt, R.bind, R.fl, Fl.seq, Vl.dat, Vl.sl, ift, vLenV, lcGo, wipeR, restR, keepS]
    · simp [cb_law_cell_at_b1, sq, fAsg, fAsgT, fPar, fPar3, fIf, fRet, fExpr, fRaise, fFor, fAug, fApp, fExt, fAugIx, fSetIx, sD, asD, rVar, rCon, bin2, lift, chn, tru, truV, vAnd, vOr, vNot, vNeg, negD, fAnd, fOr, fNot, vIte, dTup, dLst, aNil, aCons, gIxv, rIxv, hasV, vSl, slD, oNone, oSome, vRev, revD, callP, callI, ioOf, vBlt, bltD, vIsi, isiT, opD, addD, subD, mulD, fdivD, modD, powD, cmpD, ordD, bl, isD, inD, ipD, ixD, iSeq, iR1, iR2, iR3, iEnu, iZipD, seqD, vLc, cYes, noX, setS, stB, setTg, stIn, entry, outP, outI, ioAt, R.bind, R.fl, Fl.seq, Vl.dat, Vl.sl, ift, vLenV, lcGo, wipeR, restR, keepS]
theorem cell_at_ok (ns : List Int) (k : Nat) (hk : k ≤ 100000) : ∃ v, cb_law_cell_at [] [.scr ns, .int k] = .ok (.int v) [] := by
  by_cases h1 : k < ns.length
  · obtain ⟨v, e, _⟩ := atI_in (l := ns) (i := (k : Int)) (by omega) (by omega)
    refine ⟨v, ?_⟩
    simp [cb_law_cell_at, sq, fAsg, fAsgT, fPar, fPar3, fIf, fRet, fExpr, fRaise, fFor, fAug, fApp, fExt, fAugIx, fSetIx, sD, asD, rVar, rCon, bin2, lift, chn, tru, truV, vAnd, vOr, vNot, vNeg, negD, fAnd, fOr, fNot, vIte, dTup, dLst, aNil, aCons, gIxv, rIxv, hasV, vSl, slD, oNone, oSome, vRev, revD, callP, callI, ioOf, vBlt, bltD, vIsi, isiT, opD, addD, subD, mulD, fdivD, modD, powD, cmpD, ordD, bl, isD, inD, ipD, ixD, iSeq, iR1, iR2, iR3, iEnu, iZipD, seqD, vLc, cYes, noX, setS, stB, setTg, stIn, entry, outP, outI, ioAt, R.bind, R.fl, Fl.seq, Vl.dat, Vl.sl, ift, vLenV, wipeR, restR, keepS, h1, e]
  · by_cases h2 : ns = []
    · subst h2
      have e := eqG_scr []
      have h0 : ¬ ((k : Int) < 0) := by omega
      refine ⟨0, ?_⟩
      simp [cb_law_cell_at, sq, fAsg, fAsgT, fPar, fPar3, fIf, fRet, fExpr, fRaise, fFor, fAug, fApp, fExt, fAugIx, fSetIx, sD, asD, rVar, rCon, bin2, lift, chn, tru, truV, vAnd, vOr, vNot, vNeg, negD, fAnd, fOr, fNot, vIte, dTup, dLst, aNil, aCons, gIxv, rIxv, hasV, vSl, slD, oNone, oSome, vRev, revD, callP, callI, ioOf, vBlt, bltD, vIsi, isiT, opD, addD, subD, mulD, fdivD, modD, powD, cmpD, ordD, bl, isD, inD, ipD, ixD, iSeq, iR1, iR2, iR3, iEnu, iZipD, seqD, vLc, cYes, noX, setS, stB, setTg, stIn, entry, outP, outI, ioAt, R.bind, R.fl, Fl.seq, Vl.dat, Vl.sl, ift, vLenV, wipeR, restR, keepS, lim, e, h0]
    · have hl : 0 < ns.length := List.length_pos_iff.mpr h2
      have e := eqG_scr ns
      obtain ⟨v, e1, _⟩ := atI_in (l := ns) (i := (k : Int) % (ns.length : Int)) (Int.emod_nonneg _ (by omega)) (Int.emod_lt_of_pos _ (by omega))
      have b0 : (0 : Int) ≤ (k : Int) / (ns.length : Int) := Int.ediv_nonneg (by omega) (by omega)
      have b1 : (ns.length : Int) < 1073741824 := by omega
      have b3 : (0 : Int) < (ns.length : Int) := by omega
      have b2 : smR (if (60 : Int) < (k : Int) / (ns.length : Int) then 60 else (k : Int) / (ns.length : Int)) = true := by
        split
        · rfl
        · exact decide_eq_true (by omega)
      obtain ⟨x', s', e3⟩ := cell_loop (.val (.scr ns)) (.val (.int k)) (rngL 0 (if (60 : Int) < (k : Int) / (ns.length : Int) then 60 else (k : Int) / (ns.length : Int)).toNat 1) v .un .un
      have s31 : smI 31 = true := rfl
      have s101 : smI 101 = true := rfl
      refine ⟨v * 31 + k + x' * 101, ?_⟩
      simp [cb_law_cell_at, sq, fAsg, fAsgT, fPar, fPar3, fIf, fRet, fExpr, fRaise, fFor, fAug, fApp, fExt, fAugIx, fSetIx, sD, asD, rVar, rCon, bin2, lift, chn, tru, truV, vAnd, vOr, vNot, vNeg, negD, fAnd, fOr, fNot, vIte, dTup, dLst, aNil, aCons, gIxv, rIxv, hasV, vSl, slD, oNone, oSome, vRev, revD, callP, callI, ioOf, vBlt, bltD, vIsi, isiT, opD, addD, subD, mulD, fdivD, modD, powD, cmpD, ordD, bl, isD, inD, ipD, ixD, iSeq, iR1, iR2, iR3, iEnu, iZipD, seqD, vLc, cYes, noX, setS, stB, setTg, stIn, entry, outP, outI, ioAt, R.bind, R.fl, Fl.seq, Vl.dat, Vl.sl, ift, vLenV, wipeR, restR, keepS, lim, h1, e, h2, e1, b1, b2, hl]
      rw [e3]
      simp [e1, s31, s101, hl]
theorem mixed_ok (ns : List Int) (k : Nat) (hk : k ≤ 100000) (m : Int) (hm : 0 < m) : ∃ v, 0 ≤ v ∧ v < m ∧ cb_law_mixed [] [.scr ns, .int k, .int m] = .ok (.int v) [] := by
  obtain ⟨c, e⟩ := cell_at_ok ns k hk
  refine ⟨((c * 1103515245 + 7919 * k + 12345) % 2147483647) ^ 5 % 2147483647 % 999983 % m, Int.emod_nonneg _ (by omega), Int.emod_lt_of_pos _ hm, ?_⟩
  · have s1 : smI 1103515245 = true := rfl
    have s2 : smI 7919 = true := rfl
    have s3 : smI ((c * 1103515245 + 7919 * (k : Int) + 12345) % 2147483647) = true := smI_le (by omega)
    simp [cb_law_mixed, sq, fAsg, fAsgT, fPar, fPar3, fIf, fRet, fExpr, fRaise, fFor, fAug, fApp, fExt, fAugIx, fSetIx, sD, asD, rVar, rCon, bin2, lift, chn, tru, truV, vAnd, vOr, vNot, vNeg, negD, fAnd, fOr, fNot, vIte, dTup, dLst, aNil, aCons, gIxv, rIxv, hasV, vSl, slD, oNone, oSome, vRev, revD, callP, callI, ioOf, vBlt, bltD, vIsi, isiT, opD, addD, subD, mulD, fdivD, modD, powD, cmpD, ordD, bl, isD, inD, ipD, ixD, iSeq, iR1, iR2, iR3, iEnu, iZipD, seqD, vLc, cYes, noX, setS, stB, setTg, stIn, entry, outP, outI, ioAt, R.bind, R.fl, Fl.seq, Vl.dat, Vl.sl, ift, vLenV, wipeR, restR, keepS, e, s1, s2, s3, hm]
theorem draw_ok (ns : List Int) (io : List D) (hio : io.length ≤ 90000) (m : Int) (hm : 0 < m) : ∃ v, 0 ≤ v ∧ v < m ∧ cb_law_draw io [.scr ns, .int m] = .ok (.int v) (io ++ [.int 0]) := by
  obtain ⟨v, h0, h1, e⟩ := mixed_ok ns (io.length + 1) (by omega) m hm
  refine ⟨v, h0, h1, ?_⟩
  have e2 : io.length < 100000 := by omega
  simp at e
  simp [cb_law_draw, sq, fAsg, fAsgT, fPar, fPar3, fIf, fRet, fExpr, fRaise, fFor, fAug, fApp, fExt, fAugIx, fSetIx, sD, asD, rVar, rCon, bin2, lift, chn, tru, truV, vAnd, vOr, vNot, vNeg, negD, fAnd, fOr, fNot, vIte, dTup, dLst, aNil, aCons, gIxv, rIxv, hasV, vSl, slD, oNone, oSome, vRev, revD, callP, callI, ioOf, vBlt, bltD, vIsi, isiT, opD, addD, subD, mulD, fdivD, modD, powD, cmpD, ordD, bl, isD, inD, ipD, ixD, iSeq, iR1, iR2, iR3, iEnu, iZipD, seqD, vLc, cYes, noX, setS, stB, setTg, stIn, entry, outP, outI, ioAt, R.bind, R.fl, Fl.seq, Vl.dat, Vl.sl, ift, vLenV, wipeR, restR, keepS, lim, e2, e]
theorem pick_ok (ns : List Int) (io ds : List D) (hio : io.length ≤ 90000) (hd : 0 < ds.length) : ∃ d, d ∈ ds ∧ cb_law_pick io [.scr ns, .lst ds] = .ok d (io ++ [.int 0]) := by
  obtain ⟨v, h0, h1, e⟩ := draw_ok ns io hio (ds.length : Int) (by omega)
  obtain ⟨d, e1, hm⟩ := atI_in h0 h1
  refine ⟨d, hm, ?_⟩
  simp [cb_law_pick, sq, fAsg, fAsgT, fPar, fPar3, fIf, fRet, fExpr, fRaise, fFor, fAug, fApp, fExt, fAugIx, fSetIx, sD, asD, rVar, rCon, bin2, lift, chn, tru, truV, vAnd, vOr, vNot, vNeg, negD, fAnd, fOr, fNot, vIte, dTup, dLst, aNil, aCons, gIxv, rIxv, hasV, vSl, slD, oNone, oSome, vRev, revD, callP, callI, ioOf, vBlt, bltD, vIsi, isiT, opD, addD, subD, mulD, fdivD, modD, powD, cmpD, ordD, bl, isD, inD, ipD, ixD, iSeq, iR1, iR2, iR3, iEnu, iZipD, seqD, vLc, cYes, noX, setS, stB, setTg, stIn, entry, outP, outI, ioAt, R.bind, R.fl, Fl.seq, Vl.dat, Vl.sl, ift, vLenV, wipeR, restR, keepS, e, e1]
end
end PF
end
section
namespace PF
open PySem Pm
theorem sq_nx {f g : Rho → Fl} {ρ ρ1 : Rho} (h : f ρ = .nx ρ1) : sq f g ρ = g ρ1 := by
  show (f ρ).seq g = _
  rw [h]
  rfl
/-- the towns' list: as many as were drawn -/
def tw (k : Nat) : List D := List.replicate k (.int 0)
theorem tw_len (k : Nat) : (tw k).length = k := List.length_replicate
theorem tw_succ (k : Nat) : tw k ++ [.int 0] = tw (k + 1) := (List.replicate_succ' ..).symm
section
variable {p : Int} {f : List Int}
theorem drawT (ns : List Int) (k : Nat) (hk : k ≤ 90000) (m : Int) (hm : 0 < m) : ∃ v, 0 ≤ v ∧ v < m ∧ cb_law_draw (tw k) [.scr ns, .int m] = .ok (.int v) (tw (k + 1)) := by
  obtain ⟨v, h0, h1, e⟩ := draw_ok ns (tw k) (by rw [tw_len]; exact hk) m hm
  rw [tw_succ] at e
  exact ⟨v, h0, h1, e⟩
theorem pickT (ns : List Int) (k : Nat) (hk : k ≤ 90000) (ds : List D) (hd : 0 < ds.length) : ∃ d, d ∈ ds ∧ cb_law_pick (tw k) [.scr ns, .lst ds] = .ok d (tw (k + 1)) := by
  obtain ⟨v, h0, e⟩ := pick_ok ns (tw k) ds (by rw [tw_len]; exact hk) hd
  rw [tw_succ] at e
  exact ⟨v, h0, e⟩
def pairs12 : List (Int × Int) := [(2, 1), (2, 2), (2, 3), (2, 4), (2, 5), (3, 1), (3, 2), (3, 3), (5, 1), (5, 2), (7, 1), (11, 1)]
def pairD (q : Int × Int) : D := .tup [.int q.1, .int q.2]
theorem pairs_ok : ∀ q ∈ pairs12, 2 ≤ q.1 ∧ q.1 ≤ 31 ∧ 1 ≤ q.2 ∧ q.2 ≤ 5 ∧ q.1 ∈ ([2, 3, 5, 7, 11, 13, 17, 19, 23, 29, 31] : List Int) ∧ q.1 ^ q.2.toNat ≤ 32 := by decide
theorem some_loop (ns : List Int) (hp : 0 < p) (q2 q4 : Sl) : ∀ (ds : List D) (k : Nat), k + ds.length ≤ 90000 → ∃ l : List Int, l.length = ds.length ∧ (∀ a ∈ l, 0 ≤ a ∧ a < p) ∧
    lcGo (.n 5) cYes cb_law_some_ring_e1 [5] ds [.val (.scr ns), .io (tw k), q2, .val (.int p), q4, .un] = .ok (iL l) [.val (.scr ns), .io (tw (k + ds.length)), q2, .val (.int p), q4, .un]
  | [], k, h => ⟨[], rfl, fun a ha => (nomatch ha), by simp [lcGo]⟩
  | d :: ds, k, h => by
    simp only [List.length_cons] at h
    obtain ⟨v, v0, v1, e⟩ := drawT ns k (by omega) p hp
    obtain ⟨l, hl, hr, ih⟩ := some_loop ns hp q2 q4 ds (k + 1) (by omega)
    refine ⟨v :: l, congrArg Nat.succ hl, fun a ha => ?_, ?_⟩
    · rcases List.mem_cons.mp ha with rfl | ha
      · exact ⟨v0, v1⟩
      · exact hr a ha
    · rw [lc_cons (ρ1 := [.val (.scr ns), .io (tw k), q2, .val (.int p), q4, .val d]) (x := .int v) (ρ2 := [.val (.scr ns), .io (tw (k + 1)), q2, .val (.int p), q4, .val d])]
      · simp only [wipeR, List.set_cons_succ, List.set_cons_zero]
        rw [ih, show k + (d :: ds).length = k + 1 + ds.length by rw [List.length_cons]; omega]
        simp [R.bind]
      · simp [sq, fAsg, fAsgT, fPar, fPar3, fIf, fRet, fExpr, fRaise, fFor, fAug, fApp, fExt, fAugIx, fSetIx, sD, asD, rVar, rCon, bin2, lift, chn, tru, truV, vAnd, vOr, vNot, vNeg, negD, fAnd, fOr, fNot, vIte, dTup, dLst, aNil, aCons, gIxv, rIxv, hasV, vSl, slD, oNone, oSome, vRev, revD, callP, callI, ioOf, vBlt, bltD, vIsi, isiT, opD, addD, subD, mulD, fdivD, modD, powD, cmpD, ordD, bl, isD, inD, ipD, ixD, iSeq, iR1, iR2, iR3, iEnu, iZipD, seqD, vLc, cYes, noX, setS, stB, setTg, stIn, entry, outP, outI, ioAt, R.bind, R.fl, Fl.seq, Vl.dat, Vl.sl, ift, vLenV, lcGo, wipeR, restR, keepS]
      · simp [cb_law_some_ring_e1, sq, fAsg, fAsgT, fPar, fPar3, fIf, fRet, fExpr, fRaise, fFor, fAug, fApp, fExt, fAugIx, fSetIx, sD, asD, rVar, rCon, bin2, lift, chn, tru, truV, vAnd, vOr, vNot, vNeg, negD, fAnd, fOr, fNot, vIte, dTup, dLst, aNil, aCons, gIxv, rIxv, hasV, vSl, slD, oNone, oSome, vRev, revD, callP, callI, ioOf, vBlt, bltD, vIsi, isiT, opD, addD, subD, mulD, fdivD, modD, powD, cmpD, ordD, bl, isD, inD, ipD, ixD, iSeq, iR1, iR2, iR3, iEnu, iZipD, seqD, vLc, cYes, noX, setS, stB, setTg, stIn, entry, outP, outI, ioAt, R.bind, R.fl, Fl.seq, Vl.dat, Vl.sl, ift, vLenV, lcGo, wipeR, restR, keepS, e]
theorem some_ring_ok (ns : List Int) (k : Nat) (hk : k ≤ 1000) : ∃ p f, Rg p f ∧ cb_law_some_ring (tw k) [.scr ns] = .ok (rD p f) (tw (k + 1 + f.length)) := by
  obtain ⟨d, hd, e⟩ := pickT ns k (by omega) (pairs12.map pairD) (by decide)
  obtain ⟨⟨p, n⟩, hq, rfl⟩ := List.mem_map.mp hd
  obtain ⟨g1, g2, g3, g4, g5, g6⟩ := pairs_ok _ hq
  dsimp only at g1 g2 g3 g4 g5 g6
  have hr : smR n = true := decide_eq_true (by omega)
  obtain ⟨l, hl, hlr, e2⟩ := some_loop ns (p := p) (by omega) (.val (.lst (pairs12.map pairD))) (.val (.int n)) (rngL 0 n.toNat 1) (k + 1) (by rw [rng_len]; omega)
  rw [rng_len] at hl e2
  refine ⟨p, l, ⟨g1, g2, by omega, by omega, hlr, g5, by rw [hl]; exact g6⟩, ?_⟩
  have z : (rngL 0 n.toNat 1).length ≤ 100000 := by rw [rng_len]; omega
  have a1 : pairs12.map pairD = [.tup [.int 2, .int 1], .tup [.int 2, .int 2], .tup [.int 2, .int 3], .tup [.int 2, .int 4], .tup [.int 2, .int 5], .tup [.int 3, .int 1], .tup [.int 3, .int 2], .tup [.int 3, .int 3], .tup [.int 5, .int 1], .tup [.int 5, .int 2], .tup [.int 7, .int 1], .tup [.int 11, .int 1]] := rfl
  rw [a1] at e e2
  simp only [pairD] at e
  simp [cb_law_some_ring, sq, fAsg, fAsgT, fPar, fPar3, fIf, fRet, fExpr, fRaise, fFor, fAug, fApp, fExt, fAugIx, fSetIx, sD, asD, rVar, rCon, bin2, lift, chn, tru, truV, vAnd, vOr, vNot, vNeg, negD, fAnd, fOr, fNot, vIte, dTup, dLst, aNil, aCons, gIxv, rIxv, hasV, vSl, slD, oNone, oSome, vRev, revD, callP, callI, ioOf, vBlt, bltD, vIsi, isiT, opD, addD, subD, mulD, fdivD, modD, powD, cmpD, ordD, bl, isD, inD, ipD, ixD, iSeq, iR1, iR2, iR3, iEnu, iZipD, seqD, vLc, cYes, noX, setS, stB, setTg, stIn, entry, outP, outI, ioAt, R.bind, R.fl, Fl.seq, Vl.dat, Vl.sl, ift, vLenV, wipeR, restR, keepS, lim, e, hr]
  rw [if_pos z, e2]
  simp [rD, hl]
theorem size_loop (hp : 0 < p) (hp2 : p ≤ 31) : ∀ (ds : List D) (x : Int) (s : Sl), Fr s → ∃ s', Fr s' ∧
    forGo (.n 2) cb_law_size_here_b1 ds [.val (rD p f), .val (.int x), s] = .nx [.val (rD p f), .val (.int (x * p ^ ds.length)), s']
  | [], x, s, hs => ⟨s, hs, by simp [forGo]⟩
  | d :: ds, x, s, hs => by
    obtain ⟨s', hs', e⟩ := size_loop hp hp2 ds (x * p) (.val d) (.val _)
    refine ⟨s', hs', ?_⟩
    have h2 : smI p = true := smI_le (by omega)
    rw [go_cons (ρ1 := [.val (rD p f), .val (.int x), .val d]) (ρ2 := [.val (rD p f), .val (.int (x * p)), .val d]), e]
    · rw [List.length_cons, Int.pow_succ]
      simp [Int.mul_assoc, Int.mul_comm, Int.mul_left_comm]
    · rcases hs with rfl | ⟨d', rfl⟩ <;> simp [sq, fAsg, fAsgT, fPar, fPar3, fIf, fRet, fExpr, fRaise, fFor, fAug, fApp, fExt, fAugIx, fSetIx, sD, asD, rVar, rCon, bin2, lift, chn, tru, truV, vAnd, vOr, vNot, vNeg, negD, fAnd, fOr, fNot, vIte, dTup, dLst, aNil, aCons, gIxv, rIxv, hasV, vSl, slD, oNone, oSome, vRev, revD, callP, callI, ioOf, vBlt, bltD, vIsi, isiT, opD, addD, subD, mulD, fdivD, modD, powD, cmpD, ordD, bl, isD, inD, ipD, ixD, iSeq, iR1, iR2, iR3, iEnu, iZipD, seqD, vLc, cYes, noX, setS, stB, setTg, stIn, entry, outP, outI, ioAt, R.bind, R.fl, Fl.seq, Vl.dat, Vl.sl, ift, vLenV, lcGo, wipeR, restR, keepS]
    · simp [cb_law_size_here_b1, sq, fAsg, fAsgT, fPar, fPar3, fIf, fRet, fExpr, fRaise, fFor, fAug, fApp, fExt, fAugIx, fSetIx, sD, asD, rVar, rCon, bin2, lift, chn, tru, truV, vAnd, vOr, vNot, vNeg, negD, fAnd, fOr, fNot, vIte, dTup, dLst, aNil, aCons, gIxv, rIxv, hasV, vSl, slD, oNone, oSome, vRev, revD, callP, callI, ioOf, vBlt, bltD, vIsi, isiT, opD, addD, subD, mulD, fdivD, modD, powD, cmpD, ordD, bl, isD, inD, ipD, ixD, iSeq, iR1, iR2, iR3, iEnu, iZipD, seqD, vLc, cYes, noX, setS, stB, setTg, stIn, entry, outP, outI, ioAt, R.bind, R.fl, Fl.seq, Vl.dat, Vl.sl, ift, vLenV, lcGo, wipeR, restR, keepS, h2, rD, L2.atI, L2.ixN]
theorem size_here_ok (r : Rg p f) : cb_law_size_here [] [rD p f] = .ok (.int (p ^ f.length)) [] := by
  obtain ⟨s', hs', e⟩ := size_loop (f := f) (by have := r.p2; omega) r.p31 (iL f) 1 .un .un
  rw [iL_len, Int.one_mul] at e
  have e0 : L2.atI [D.int p, D.tup (iL f)] 1 = some (.tup (iL f)) := rfl
  simp only [rD] at e
  simp [cb_law_size_here, sq, fAsg, fAsgT, fPar, fPar3, fIf, fRet, fExpr, fRaise, fFor, fAug, fApp, fExt, fAugIx, fSetIx, sD, asD, rVar, rCon, bin2, lift, chn, tru, truV, vAnd, vOr, vNot, vNeg, negD, fAnd, fOr, fNot, vIte, dTup, dLst, aNil, aCons, gIxv, rIxv, hasV, vSl, slD, oNone, oSome, vRev, revD, callP, callI, ioOf, vBlt, bltD, vIsi, isiT, opD, addD, subD, mulD, fdivD, modD, powD, cmpD, ordD, bl, isD, inD, ipD, ixD, iSeq, iR1, iR2, iR3, iEnu, iZipD, seqD, vLc, cYes, noX, setS, stB, setTg, stIn, entry, outP, outI, ioAt, R.bind, R.fl, Fl.seq, Vl.dat, Vl.sl, ift, vLenV, lcGo, wipeR, restR, keepS, rD, e0]
  rw [e]
  rfl
theorem same_number_int (i j : Int) : cb_law_same_number [] [.int i, .int j] = .ok (.bool (decide (i = j))) [] := by
  have e := eqG_int i j
  simp [cb_law_same_number, sq, fAsg, fAsgT, fPar, fPar3, fIf, fRet, fExpr, fRaise, fFor, fAug, fApp, fExt, fAugIx, fSetIx, sD, asD, rVar, rCon, bin2, lift, chn, tru, truV, vAnd, vOr, vNot, vNeg, negD, fAnd, fOr, fNot, vIte, dTup, dLst, aNil, aCons, gIxv, rIxv, hasV, vSl, slD, oNone, oSome, vRev, revD, callP, callI, ioOf, vBlt, bltD, vIsi, isiT, opD, addD, subD, mulD, fdivD, modD, powD, cmpD, ordD, bl, isD, inD, ipD, ixD, iSeq, iR1, iR2, iR3, iEnu, iZipD, seqD, vLc, cYes, noX, setS, stB, setTg, stIn, entry, outP, outI, ioAt, R.bind, R.fl, Fl.seq, Vl.dat, Vl.sl, ift, vLenV, lcGo, wipeR, restR, keepS, e]
end
end PF
end
section
namespace PF
open PySem Pm
def tail_k01 : Rho → Fl := (sq (fAsg 10 (dLst (aCons (sD (rCon .none)) (aCons (sD (rCon (.int 5))) (aCons (sD (dTup aNil)) (aCons (sD (dTup (aCons (sD (rCon (.int 2))) aNil))) (aCons (sD (dTup (aCons (sD (rCon (.int 2))) (aCons (sD (dTup aNil)) aNil)))) (aCons (sD (dTup (aCons (sD (rCon (.int 4))) (aCons (sD (dTup (aCons (sD (rCon (.int 1))) aNil))) aNil)))) (aCons (sD (dTup (aCons (sD (rCon (.int 1))) (aCons (sD (dTup (aCons (sD (rCon (.int 0))) aNil))) aNil)))) (aCons (sD (dTup (aCons (sD (rCon (.int 2))) (aCons (sD (dLst (aCons (sD (rCon (.int 1))) aNil))) aNil)))) (aCons (sD (dLst (aCons (sD (rCon (.int 2))) (aCons (sD (dTup (aCons (sD (rCon (.int 1))) aNil))) aNil)))) (aCons (sD (dTup (aCons (sD (rCon (.int 2))) (aCons (sD (dTup (aCons (sD (rCon (.int 2))) aNil))) aNil)))) (aCons (sD (dTup (aCons (sD (rCon (.int 2))) (aCons (sD (dTup (aCons (sD (rCon (.bool true))) aNil))) aNil)))) aNil)))))))))))))
  (sq (fExt 10 (sD (dLst (aCons (sD (dTup (aCons (sD (rCon (.int 2))) (aCons (sD (dTup (aCons (sD (rCon (.str "1"))) aNil))) aNil)))) (aCons (sD (dTup (aCons (sD (rCon (.bool true))) (aCons (sD (dTup (aCons (sD (rCon (.int 0))) aNil))) aNil)))) (aCons (sD (dTup (aCons (sD (rCon (.int 2))) (aCons (sD (bin2 (opD .Mult) (sD (dTup (aCons (sD (rCon (.int 1))) aNil))) (sD (rCon (.int 6))))) aNil)))) (aCons (sD (dTup (aCons (sD (rCon (.int 3))) (aCons (sD (bin2 (opD .Mult) (sD (dTup (aCons (sD (rCon (.int 1))) aNil))) (sD (rCon (.int 4))))) aNil)))) (aCons (sD (dTup (aCons (sD (rCon (.int 7))) (aCons (sD (dTup (aCons (sD (rCon (.int 1))) (aCons (sD (rCon (.int 1))) aNil)))) aNil)))) (aCons (sD (dTup (aCons (sD (rCon (.int 37))) (aCons (sD (dTup (aCons (sD (rCon (.int 1))) aNil))) aNil)))) (aCons (sD (dTup (aCons (sD (bin2 (opD .Sub) (sD (rCon (.int 0))) (sD (rCon (.int 2))))) (aCons (sD (dTup (aCons (sD (rCon (.int 0))) aNil))) aNil)))) aNil))))))))))
  (sq (fExt 10 (sD (dLst (aCons (sD (dTup (aCons (sD (rCon (.int 2))) (aCons (sD (dTup (aCons (sD (rCon (.int 1))) (aCons (sD (rCon .none)) aNil)))) aNil)))) (aCons (sD (dTup (aCons (sD (rCon (.int 9))) (aCons (sD (dTup (aCons (sD (rCon (.int 1))) aNil))) aNil)))) (aCons (sD (dTup (aCons (sD (rCon (.int 2))) (aCons (sD (dTup (aCons (sD (bin2 (opD .Sub) (sD (rCon (.int 0))) (sD (rCon (.int 1))))) aNil))) aNil)))) aNil))))))
  (sq (fIf (fOr (fun ρ => tru ((bin2 (cmpD .IsNot) (sD (callP 1 (cb_is_ring []) (aCons (sD (dTup (aCons (sD (rCon (.int 2))) (aCons (sD (bin2 (opD .Mult) (sD (dTup (aCons (sD (rCon (.int 1))) aNil))) (sD (rCon (.int 5))))) aNil)))) aNil))) (sD (rCon (.bool true)))) ρ)) (fOr (fun ρ => tru ((bin2 (cmpD .IsNot) (sD (callP 1 (cb_is_ring []) (aCons (sD (dTup (aCons (sD (rCon (.int 3))) (aCons (sD (bin2 (opD .Mult) (sD (dTup (aCons (sD (rCon (.int 2))) aNil))) (sD (rCon (.int 3))))) aNil)))) aNil))) (sD (rCon (.bool true)))) ρ)) (fun ρ => tru ((bin2 (cmpD .NotEq) (sD (callP 1 (cb_size []) (aCons (sD (dTup (aCons (sD (rCon (.int 2))) (aCons (sD (bin2 (opD .Mult) (sD (dTup (aCons (sD (rCon (.int 0))) aNil))) (sD (rCon (.int 5))))) aNil)))) aNil))) (sD (rCon (.int 32)))) ρ))))
    (sq (fRet (sD (rCon (.bool false))))
  Fl.nx)
    Fl.nx)
  (sq (fRet (sD (vAnd (bin2 (cmpD .Eq) (sD (vLc (iSeq (sD (rVar 10))) (.n 11) cYes cb_law_k01_e1 [11])) (sD (bin2 (opD .Mult) (sD (dLst (aCons (sD (rCon (.bool false))) aNil))) (sD (vLenV 10))))) (bin2 (cmpD .Is) (sD (callP 1 (cb_is_ring []) (aCons (sD (dTup (aCons (sD (rCon (.int 31))) (aCons (sD (dTup (aCons (sD (rCon (.int 30))) aNil))) aNil)))) aNil))) (sD (rCon (.bool true)))))))
  Fl.nx)))))
theorem tail_k01_ok (s0 s1 s2 s3 s4 s5 s6 s7 s8 s9 : Sl) : outP (tail_k01 [s0, s1, s2, s3, s4, s5, s6, s7, s8, s9, .un, .un]) = .ok (.bool true) [] := by
  kernel_rfl
section
variable {p : Int} {f : List Int}
theorem due_loop (r : Rg p f) (s0 s1 s3 s5 s6 s7 s10 s11 : Sl) (x : Int) : ∀ (ds : List D) (j : Nat) (s : Sl), Fr s → ∃ s', Fr s' ∧
    forGo (.n 9) cb_law_k01_b2 ds [s0, s1, .val (rD p f), s3, .val (.int x), s5, s6, s7, .val (.int (pw p f x j)), s, s10, s11] = .nx [s0, s1, .val (rD p f), s3, .val (.int x), s5, s6, s7, .val (.int (pw p f x (j + ds.length))), s', s10, s11]
  | [], j, s, hs => ⟨s, hs, rfl⟩
  | d :: ds, j, s, hs => by
    obtain ⟨s', hs', e⟩ := due_loop r s0 s1 s3 s5 s6 s7 s10 s11 x ds (j + 1) (.val d) (.val _)
    refine ⟨s', hs', ?_⟩
    have h := product_here_ok r (pw p f x j) x
    rw [go_cons (ρ1 := [s0, s1, .val (rD p f), s3, .val (.int x), s5, s6, s7, .val (.int (pw p f x j)), .val d, s10, s11]) (ρ2 := [s0, s1, .val (rD p f), s3, .val (.int x), s5, s6, s7, .val (.int (pw p f x (j + 1))), .val d, s10, s11]), e, show j + (d :: ds).length = j + 1 + ds.length by rw [List.length_cons]; omega]
    · rcases hs with rfl | ⟨d', rfl⟩ <;> simp [sq, fAsg, fAsgT, fPar, fPar3, fIf, fRet, fExpr, fRaise, fFor, fAug, fApp, fExt, fAugIx, fSetIx, sD, asD, rVar, rCon, bin2, lift, chn, tru, truV, vAnd, vOr, vNot, vNeg, negD, fAnd, fOr, fNot, vIte, dTup, dLst, aNil, aCons, gIxv, rIxv, hasV, vSl, slD, oNone, oSome, vRev, revD, callP, callI, ioOf, vBlt, bltD, vIsi, isiT, opD, addD, subD, mulD, fdivD, modD, powD, cmpD, ordD, bl, isD, inD, ipD, ixD, iSeq, iR1, iR2, iR3, iEnu, iZipD, seqD, vLc, cYes, noX, setS, stB, setTg, stIn, entry, outP, outI, ioAt, R.bind, R.fl, Fl.seq, Vl.dat, Vl.sl, ift, vLenV, lcGo, wipeR, restR, keepS]
    · simp [cb_law_k01_b2, sq, fAsg, fAsgT, fPar, fPar3, fIf, fRet, fExpr, fRaise, fFor, fAug, fApp, fExt, fAugIx, fSetIx, sD, asD, rVar, rCon, bin2, lift, chn, tru, truV, vAnd, vOr, vNot, vNeg, negD, fAnd, fOr, fNot, vIte, dTup, dLst, aNil, aCons, gIxv, rIxv, hasV, vSl, slD, oNone, oSome, vRev, revD, callP, callI, ioOf, vBlt, bltD, vIsi, isiT, opD, addD, subD, mulD, fdivD, modD, powD, cmpD, ordD, bl, isD, inD, ipD, ixD, iSeq, iR1, iR2, iR3, iEnu, iZipD, seqD, vLc, cYes, noX, setS, stB, setTg, stIn, entry, outP, outI, ioAt, R.bind, R.fl, Fl.seq, Vl.dat, Vl.sl, ift, vLenV, lcGo, wipeR, restR, keepS, h]
      rfl
theorem law_k01_ok (ns : List Int) : cb_law_k01 [] [.scr ns] = .ok (.bool true) [] := by
  obtain ⟨p, f, r, h1⟩ := some_ring_ok ns 0 (by omega)
  have hp : 1 < p := by have := r.p2; omega
  have hp0 : 0 < p := by omega
  have n1 := r.n1
  have n5 := r.n5
  have hq : 0 < p ^ f.length := Int.pow_pos hp0
  obtain ⟨x, x0, x1, hx⟩ := drawT ns (1 + f.length) (by omega) _ hq
  obtain ⟨y, y0, y1, hy⟩ := drawT ns (1 + f.length + 1) (by omega) _ hq
  obtain ⟨z, z0, z1, hz⟩ := drawT ns (1 + f.length + 1 + 1) (by omega) _ hq
  obtain ⟨c, c0, c1, hc⟩ := drawT ns (1 + f.length + 1 + 1 + 1) (by omega) 12 (by omega)
  obtain ⟨m, rfl⟩ : ∃ m : Nat, c = m := ⟨c.toNat, by omega⟩
  have ex : El p f x := ⟨x0, x1⟩
  have ey : El p f y := ⟨y0, y1⟩
  have ez : El p f z := ⟨z0, z1⟩
  have e1 := el_one hp n1
  have h2 := size_here_ok r
  have h3 := is_ring_ok r
  have h4 := size_ok r
  have h5 := same_number_int (p ^ f.length) (p ^ f.length)
  have a1 := add_ok r ex ey
  have a2 := sum_here_ok r x y
  have a3 := multiply_ok r ex ey
  have a4 := product_here_ok r x y
  have b1 := negative_ok r ex
  have b2 := add_ok r ex (neg_el hp0 x)
  rw [add_neg hp0] at b2
  have b3 := multiply_ok r ey ex
  rw [← mul_comm hp0] at b3
  have b4 := multiply_ok r ex e1
  rw [mul_one hp n1 ex] at b4
  have d1 := add_ok r ey ez
  have d2 := multiply_ok r ex (add_el hp0 y z)
  rw [mul_add hp0] at d2
  have d3 := multiply_ok r ex ez
  have d4 := add_ok r (mul_el (f := f) hp0 x y) (mul_el (f := f) hp0 x z)
  have g1 := multiply_ok r (mul_el (f := f) hp0 x y) ez
  rw [mul_assoc hp0] at g1
  have g2 := multiply_ok r ey ez
  have g3 := multiply_ok r ex (mul_el (f := f) hp0 y z)
  have k1 := power_ok r ex m (by omega)
  have k2 := power_ok r ex 0 (by omega)
  have k3 := power_ok r ex (m + 40) (by omega)
  rw [pw_add hp n1] at k3
  have k4 := power_ok r ex 40 (by omega)
  have k5 := multiply_ok r (pw_el hp n1 x m) (pw_el hp n1 x 40)
  have sm : smR (m : Int) = true := decide_eq_true (by omega)
  obtain ⟨s', hs', e9⟩ := due_loop r (.val (.scr ns)) (.own (tw (1 + f.length + 1 + 1 + 1 + 1))) (.val (.int (p ^ f.length))) (.val (.int y)) (.val (.int z)) (.val (.int m)) .un .un x (rngL 0 m 1) 0 .un .un
  rw [rng_len, Nat.zero_add] at e9
  have tl := tail_k01_ok (.val (.scr ns)) (.own (tw (1 + f.length + 1 + 1 + 1 + 1))) (.val (rD p f)) (.val (.int (p ^ f.length))) (.val (.int x)) (.val (.int y)) (.val (.int z)) (.val (.int m)) (.val (.int (pw p f x m))) s'
  rw [show 0 + 1 + f.length = 1 + f.length by omega] at h1
  refine (congrArg outP (sq_nx (ρ1 := [.val (.scr ns), .own (tw 0), .un, .un, .un, .un, .un, .un, .un, .un, .un, .un]) ?_)).trans ?_
  · simp [sq, fAsg, fAsgT, fPar, fPar3, fIf, fRet, fExpr, fRaise, fFor, fAug, fApp, fExt, fAugIx, fSetIx, sD, asD, rVar, rCon, bin2, lift, chn, tru, truV, vAnd, vOr, vNot, vNeg, negD, fAnd, fOr, fNot, vIte, dTup, dLst, aNil, aCons, gIxv, rIxv, hasV, vSl, slD, oNone, oSome, vRev, revD, callP, callI, ioOf, vBlt, bltD, vIsi, isiT, opD, addD, subD, mulD, fdivD, modD, powD, cmpD, ordD, bl, isD, inD, ipD, ixD, iSeq, iR1, iR2, iR3, iEnu, iZipD, seqD, vLc, cYes, noX, setS, stB, setTg, stIn, entry, outP, outI, ioAt, R.bind, R.fl, Fl.seq, Vl.dat, Vl.sl, ift, vLenV, wipeR, restR, keepS, lim, tw]
  refine (congrArg outP (sq_nx (ρ1 := [.val (.scr ns), .own (tw (1 + f.length)), .val (rD p f), .un, .un, .un, .un, .un, .un, .un, .un, .un]) ?_)).trans ?_
  · simp [sq, fAsg, fAsgT, fPar, fPar3, fIf, fRet, fExpr, fRaise, fFor, fAug, fApp, fExt, fAugIx, fSetIx, sD, asD, rVar, rCon, bin2, lift, chn, tru, truV, vAnd, vOr, vNot, vNeg, negD, fAnd, fOr, fNot, vIte, dTup, dLst, aNil, aCons, gIxv, rIxv, hasV, vSl, slD, oNone, oSome, vRev, revD, callP, callI, ioOf, vBlt, bltD, vIsi, isiT, opD, addD, subD, mulD, fdivD, modD, powD, cmpD, ordD, bl, isD, inD, ipD, ixD, iSeq, iR1, iR2, iR3, iEnu, iZipD, seqD, vLc, cYes, noX, setS, stB, setTg, stIn, entry, outP, outI, ioAt, R.bind, R.fl, Fl.seq, Vl.dat, Vl.sl, ift, vLenV, wipeR, restR, keepS, h1]
  refine (congrArg outP (sq_nx (ρ1 := [.val (.scr ns), .own (tw (1 + f.length)), .val (rD p f), .val (.int (p ^ f.length)), .un, .un, .un, .un, .un, .un, .un, .un]) ?_)).trans ?_
  · simp [sq, fAsg, fAsgT, fPar, fPar3, fIf, fRet, fExpr, fRaise, fFor, fAug, fApp, fExt, fAugIx, fSetIx, sD, asD, rVar, rCon, bin2, lift, chn, tru, truV, vAnd, vOr, vNot, vNeg, negD, fAnd, fOr, fNot, vIte, dTup, dLst, aNil, aCons, gIxv, rIxv, hasV, vSl, slD, oNone, oSome, vRev, revD, callP, callI, ioOf, vBlt, bltD, vIsi, isiT, opD, addD, subD, mulD, fdivD, modD, powD, cmpD, ordD, bl, isD, inD, ipD, ixD, iSeq, iR1, iR2, iR3, iEnu, iZipD, seqD, vLc, cYes, noX, setS, stB, setTg, stIn, entry, outP, outI, ioAt, R.bind, R.fl, Fl.seq, Vl.dat, Vl.sl, ift, vLenV, wipeR, restR, keepS, h2]
  refine (congrArg outP (sq_nx (ρ1 := [.val (.scr ns), .own (tw (1 + f.length)), .val (rD p f), .val (.int (p ^ f.length)), .un, .un, .un, .un, .un, .un, .un, .un]) ?_)).trans ?_
  · simp [sq, fAsg, fAsgT, fPar, fPar3, fIf, fRet, fExpr, fRaise, fFor, fAug, fApp, fExt, fAugIx, fSetIx, sD, asD, rVar, rCon, bin2, lift, chn, tru, truV, vAnd, vOr, vNot, vNeg, negD, fAnd, fOr, fNot, vIte, dTup, dLst, aNil, aCons, gIxv, rIxv, hasV, vSl, slD, oNone, oSome, vRev, revD, callP, callI, ioOf, vBlt, bltD, vIsi, isiT, opD, addD, subD, mulD, fdivD, modD, powD, cmpD, ordD, bl, isD, inD, ipD, ixD, iSeq, iR1, iR2, iR3, iEnu, iZipD, seqD, vLc, cYes, noX, setS, stB, setTg, stIn, entry, outP, outI, ioAt, R.bind, R.fl, Fl.seq, Vl.dat, Vl.sl, ift, vLenV, wipeR, restR, keepS, h3, h4, h5]
  refine (congrArg outP (sq_nx (ρ1 := [.val (.scr ns), .own (tw (1 + f.length + 1 + 1 + 1)), .val (rD p f), .val (.int (p ^ f.length)), .val (.int x), .val (.int y), .val (.int z), .un, .un, .un, .un, .un]) ?_)).trans ?_
  · simp [sq, fAsg, fAsgT, fPar, fPar3, fIf, fRet, fExpr, fRaise, fFor, fAug, fApp, fExt, fAugIx, fSetIx, sD, asD, rVar, rCon, bin2, lift, chn, tru, truV, vAnd, vOr, vNot, vNeg, negD, fAnd, fOr, fNot, vIte, dTup, dLst, aNil, aCons, gIxv, rIxv, hasV, vSl, slD, oNone, oSome, vRev, revD, callP, callI, ioOf, vBlt, bltD, vIsi, isiT, opD, addD, subD, mulD, fdivD, modD, powD, cmpD, ordD, bl, isD, inD, ipD, ixD, iSeq, iR1, iR2, iR3, iEnu, iZipD, seqD, vLc, cYes, noX, setS, stB, setTg, stIn, entry, outP, outI, ioAt, R.bind, R.fl, Fl.seq, Vl.dat, Vl.sl, ift, vLenV, wipeR, restR, keepS, hx, hy, hz]
  refine (congrArg outP (sq_nx (ρ1 := [.val (.scr ns), .own (tw (1 + f.length + 1 + 1 + 1)), .val (rD p f), .val (.int (p ^ f.length)), .val (.int x), .val (.int y), .val (.int z), .un, .un, .un, .un, .un]) ?_)).trans ?_
  · simp [sq, fAsg, fAsgT, fPar, fPar3, fIf, fRet, fExpr, fRaise, fFor, fAug, fApp, fExt, fAugIx, fSetIx, sD, asD, rVar, rCon, bin2, lift, chn, tru, truV, vAnd, vOr, vNot, vNeg, negD, fAnd, fOr, fNot, vIte, dTup, dLst, aNil, aCons, gIxv, rIxv, hasV, vSl, slD, oNone, oSome, vRev, revD, callP, callI, ioOf, vBlt, bltD, vIsi, isiT, opD, addD, subD, mulD, fdivD, modD, powD, cmpD, ordD, bl, isD, inD, ipD, ixD, iSeq, iR1, iR2, iR3, iEnu, iZipD, seqD, vLc, cYes, noX, setS, stB, setTg, stIn, entry, outP, outI, ioAt, R.bind, R.fl, Fl.seq, Vl.dat, Vl.sl, ift, vLenV, wipeR, restR, keepS, a1, a2, a3, a4, eqG_int]
  refine (congrArg outP (sq_nx (ρ1 := [.val (.scr ns), .own (tw (1 + f.length + 1 + 1 + 1)), .val (rD p f), .val (.int (p ^ f.length)), .val (.int x), .val (.int y), .val (.int z), .un, .un, .un, .un, .un]) ?_)).trans ?_
  · simp [sq, fAsg, fAsgT, fPar, fPar3, fIf, fRet, fExpr, fRaise, fFor, fAug, fApp, fExt, fAugIx, fSetIx, sD, asD, rVar, rCon, bin2, lift, chn, tru, truV, vAnd, vOr, vNot, vNeg, negD, fAnd, fOr, fNot, vIte, dTup, dLst, aNil, aCons, gIxv, rIxv, hasV, vSl, slD, oNone, oSome, vRev, revD, callP, callI, ioOf, vBlt, bltD, vIsi, isiT, opD, addD, subD, mulD, fdivD, modD, powD, cmpD, ordD, bl, isD, inD, ipD, ixD, iSeq, iR1, iR2, iR3, iEnu, iZipD, seqD, vLc, cYes, noX, setS, stB, setTg, stIn, entry, outP, outI, ioAt, R.bind, R.fl, Fl.seq, Vl.dat, Vl.sl, ift, vLenV, wipeR, restR, keepS, b1, b2, b3, a3, b4, eqG_int]
  refine (congrArg outP (sq_nx (ρ1 := [.val (.scr ns), .own (tw (1 + f.length + 1 + 1 + 1)), .val (rD p f), .val (.int (p ^ f.length)), .val (.int x), .val (.int y), .val (.int z), .un, .un, .un, .un, .un]) ?_)).trans ?_
  · simp [sq, fAsg, fAsgT, fPar, fPar3, fIf, fRet, fExpr, fRaise, fFor, fAug, fApp, fExt, fAugIx, fSetIx, sD, asD, rVar, rCon, bin2, lift, chn, tru, truV, vAnd, vOr, vNot, vNeg, negD, fAnd, fOr, fNot, vIte, dTup, dLst, aNil, aCons, gIxv, rIxv, hasV, vSl, slD, oNone, oSome, vRev, revD, callP, callI, ioOf, vBlt, bltD, vIsi, isiT, opD, addD, subD, mulD, fdivD, modD, powD, cmpD, ordD, bl, isD, inD, ipD, ixD, iSeq, iR1, iR2, iR3, iEnu, iZipD, seqD, vLc, cYes, noX, setS, stB, setTg, stIn, entry, outP, outI, ioAt, R.bind, R.fl, Fl.seq, Vl.dat, Vl.sl, ift, vLenV, wipeR, restR, keepS, d1, d2, a3, d3, d4, eqG_int]
  refine (congrArg outP (sq_nx (ρ1 := [.val (.scr ns), .own (tw (1 + f.length + 1 + 1 + 1)), .val (rD p f), .val (.int (p ^ f.length)), .val (.int x), .val (.int y), .val (.int z), .un, .un, .un, .un, .un]) ?_)).trans ?_
  · simp [sq, fAsg, fAsgT, fPar, fPar3, fIf, fRet, fExpr, fRaise, fFor, fAug, fApp, fExt, fAugIx, fSetIx, sD, asD, rVar, rCon, bin2, lift, chn, tru, truV, vAnd, vOr, vNot, vNeg, negD, fAnd, fOr, fNot, vIte, dTup, dLst, aNil, aCons, gIxv, rIxv, hasV, vSl, slD, oNone, oSome, vRev, revD, callP, callI, ioOf, vBlt, bltD, vIsi, isiT, opD, addD, subD, mulD, fdivD, modD, powD, cmpD, ordD, bl, isD, inD, ipD, ixD, iSeq, iR1, iR2, iR3, iEnu, iZipD, seqD, vLc, cYes, noX, setS, stB, setTg, stIn, entry, outP, outI, ioAt, R.bind, R.fl, Fl.seq, Vl.dat, Vl.sl, ift, vLenV, wipeR, restR, keepS, g1, g2, g3, a3, eqG_int]
  refine (congrArg outP (sq_nx (ρ1 := [.val (.scr ns), .own (tw (1 + f.length + 1 + 1 + 1 + 1)), .val (rD p f), .val (.int (p ^ f.length)), .val (.int x), .val (.int y), .val (.int z), .val (.int m), .un, .un, .un, .un]) ?_)).trans ?_
  · simp [sq, fAsg, fAsgT, fPar, fPar3, fIf, fRet, fExpr, fRaise, fFor, fAug, fApp, fExt, fAugIx, fSetIx, sD, asD, rVar, rCon, bin2, lift, chn, tru, truV, vAnd, vOr, vNot, vNeg, negD, fAnd, fOr, fNot, vIte, dTup, dLst, aNil, aCons, gIxv, rIxv, hasV, vSl, slD, oNone, oSome, vRev, revD, callP, callI, ioOf, vBlt, bltD, vIsi, isiT, opD, addD, subD, mulD, fdivD, modD, powD, cmpD, ordD, bl, isD, inD, ipD, ixD, iSeq, iR1, iR2, iR3, iEnu, iZipD, seqD, vLc, cYes, noX, setS, stB, setTg, stIn, entry, outP, outI, ioAt, R.bind, R.fl, Fl.seq, Vl.dat, Vl.sl, ift, vLenV, wipeR, restR, keepS, hc]
  refine (congrArg outP (sq_nx (ρ1 := [.val (.scr ns), .own (tw (1 + f.length + 1 + 1 + 1 + 1)), .val (rD p f), .val (.int (p ^ f.length)), .val (.int x), .val (.int y), .val (.int z), .val (.int m), .val (.int 1), .un, .un, .un]) ?_)).trans ?_
  · simp [sq, fAsg, fAsgT, fPar, fPar3, fIf, fRet, fExpr, fRaise, fFor, fAug, fApp, fExt, fAugIx, fSetIx, sD, asD, rVar, rCon, bin2, lift, chn, tru, truV, vAnd, vOr, vNot, vNeg, negD, fAnd, fOr, fNot, vIte, dTup, dLst, aNil, aCons, gIxv, rIxv, hasV, vSl, slD, oNone, oSome, vRev, revD, callP, callI, ioOf, vBlt, bltD, vIsi, isiT, opD, addD, subD, mulD, fdivD, modD, powD, cmpD, ordD, bl, isD, inD, ipD, ixD, iSeq, iR1, iR2, iR3, iEnu, iZipD, seqD, vLc, cYes, noX, setS, stB, setTg, stIn, entry, outP, outI, ioAt, R.bind, R.fl, Fl.seq, Vl.dat, Vl.sl, ift, vLenV, wipeR, restR, keepS]
  refine (congrArg outP (sq_nx (ρ1 := [.val (.scr ns), .own (tw (1 + f.length + 1 + 1 + 1 + 1)), .val (rD p f), .val (.int (p ^ f.length)), .val (.int x), .val (.int y), .val (.int z), .val (.int m), .val (.int (pw p f x m)), s', .un, .un]) ?_)).trans ?_
  · simp [sq, fAsg, fAsgT, fPar, fPar3, fIf, fRet, fExpr, fRaise, fFor, fAug, fApp, fExt, fAugIx, fSetIx, sD, asD, rVar, rCon, bin2, lift, chn, tru, truV, vAnd, vOr, vNot, vNeg, negD, fAnd, fOr, fNot, vIte, dTup, dLst, aNil, aCons, gIxv, rIxv, hasV, vSl, slD, oNone, oSome, vRev, revD, callP, callI, ioOf, vBlt, bltD, vIsi, isiT, opD, addD, subD, mulD, fdivD, modD, powD, cmpD, ordD, bl, isD, inD, ipD, ixD, iSeq, iR1, iR2, iR3, iEnu, iZipD, seqD, vLc, cYes, noX, setS, stB, setTg, stIn, entry, outP, outI, ioAt, R.bind, R.fl, Fl.seq, Vl.dat, Vl.sl, ift, vLenV, wipeR, restR, keepS, sm]
    exact e9
  refine (congrArg outP (sq_nx (ρ1 := [.val (.scr ns), .own (tw (1 + f.length + 1 + 1 + 1 + 1)), .val (rD p f), .val (.int (p ^ f.length)), .val (.int x), .val (.int y), .val (.int z), .val (.int m), .val (.int (pw p f x m)), s', .un, .un]) ?_)).trans ?_
  · simp at k1 k2
    simp [sq, fAsg, fAsgT, fPar, fPar3, fIf, fRet, fExpr, fRaise, fFor, fAug, fApp, fExt, fAugIx, fSetIx, sD, asD, rVar, rCon, bin2, lift, chn, tru, truV, vAnd, vOr, vNot, vNeg, negD, fAnd, fOr, fNot, vIte, dTup, dLst, aNil, aCons, gIxv, rIxv, hasV, vSl, slD, oNone, oSome, vRev, revD, callP, callI, ioOf, vBlt, bltD, vIsi, isiT, opD, addD, subD, mulD, fdivD, modD, powD, cmpD, ordD, bl, isD, inD, ipD, ixD, iSeq, iR1, iR2, iR3, iEnu, iZipD, seqD, vLc, cYes, noX, setS, stB, setTg, stIn, entry, outP, outI, ioAt, R.bind, R.fl, Fl.seq, Vl.dat, Vl.sl, ift, vLenV, wipeR, restR, keepS, k1, k2, eqG_int, pw]
  refine (congrArg outP (sq_nx (ρ1 := [.val (.scr ns), .own (tw (1 + f.length + 1 + 1 + 1 + 1)), .val (rD p f), .val (.int (p ^ f.length)), .val (.int x), .val (.int y), .val (.int z), .val (.int m), .val (.int (pw p f x m)), s', .un, .un]) ?_)).trans ?_
  · simp at k3 k4
    simp [sq, fAsg, fAsgT, fPar, fPar3, fIf, fRet, fExpr, fRaise, fFor, fAug, fApp, fExt, fAugIx, fSetIx, sD, asD, rVar, rCon, bin2, lift, chn, tru, truV, vAnd, vOr, vNot, vNeg, negD, fAnd, fOr, fNot, vIte, dTup, dLst, aNil, aCons, gIxv, rIxv, hasV, vSl, slD, oNone, oSome, vRev, revD, callP, callI, ioOf, vBlt, bltD, vIsi, isiT, opD, addD, subD, mulD, fdivD, modD, powD, cmpD, ordD, bl, isD, inD, ipD, ixD, iSeq, iR1, iR2, iR3, iEnu, iZipD, seqD, vLc, cYes, noX, setS, stB, setTg, stIn, entry, outP, outI, ioAt, R.bind, R.fl, Fl.seq, Vl.dat, Vl.sl, ift, vLenV, wipeR, restR, keepS, k3, k4, k5, eqG_int]
  exact tl
end
end PF
end
section
set_option maxHeartbeats 0
namespace Pk01
open PySem PySem.Spec PyProof.Rows L2 PF
def topS (i : Nat) : Stmt := PySem.Challenge.pw_powerfields_k01_whole_rings.main.body.getD i (.Pass ⟨0, 0, 0, 0⟩)
def fd_is_integer : Fd := ⟨"is_integer", false, [("value", ⟨13, 15, 13, 20⟩), ("low", ⟨13, 22, 13, 25⟩), ("high", ⟨13, 27, 13, 31⟩)], ["value", "low", "high"],
   (.cons (.ret (.bop .And (.isi .int (.v 0 "value" ⟨14, 22, 14, 27⟩) ⟨14, 11, 14, 21⟩ ⟨14, 29, 14, 32⟩ ⟨14, 11, 14, 33⟩) (.cons (.not (.isi .bool (.v 0 "value" ⟨14, 54, 14, 59⟩) ⟨14, 43, 14, 53⟩ ⟨14, 61, 14, 65⟩ ⟨14, 43, 14, 66⟩) ⟨14, 39, 14, 66⟩) (.cons (.chn .LtE .LtE (.v 1 "low" ⟨14, 73, 14, 76⟩) (.v 0 "value" ⟨14, 80, 14, 85⟩) (.v 2 "high" ⟨14, 89, 14, 93⟩) ⟨14, 73, 14, 93⟩) .nil)) ⟨14, 11, 14, 94⟩) ⟨14, 4, 14, 94⟩)
    .nil), defScope (topS 8)⟩
def fd_times_itself : Fd := ⟨"times_itself", false, [("p", ⟨15, 17, 15, 18⟩), ("count", ⟨15, 20, 15, 25⟩)], ["p", "count", "result", "again"],
   (.cons (.asg 2 "result" ⟨16, 4, 16, 10⟩ (.ki 1 0 ⟨16, 13, 16, 14⟩) ⟨16, 4, 16, 14⟩)
    (.cons (.forr (.n 3 "again" ⟨17, 8, 17, 13⟩) (.r1 ⟨17, 17, 17, 22⟩ (.v 1 "count" ⟨17, 23, 17, 28⟩) ⟨17, 17, 17, 29⟩) (.cons (.aug .Mult 2 "result" ⟨18, 8, 18, 14⟩ (.v 0 "p" ⟨18, 18, 18, 19⟩) ⟨18, 8, 18, 19⟩)
    .nil) ⟨17, 4, 18, 19⟩)
    (.cons (.ret (.v 2 "result" ⟨19, 11, 19, 17⟩) ⟨19, 4, 19, 17⟩)
    .nil))), defScope (topS 9)⟩
def fd_is_ring : Fd := ⟨"is_ring", false, [("value", ⟨20, 12, 20, 17⟩)], ["value", "p", "lower", "one"],
   (.cons (.iff (.bop .Or (.not (.isi .tuple (.v 0 "value" ⟨21, 22, 21, 27⟩) ⟨21, 11, 21, 21⟩ ⟨21, 29, 21, 34⟩ ⟨21, 11, 21, 35⟩) ⟨21, 7, 21, 35⟩) (.cons (.cmp .NotEq (.lenV 0 "value" ⟨21, 43, 21, 48⟩ ⟨21, 39, 21, 42⟩ ⟨21, 39, 21, 49⟩) (.ki 2 0 ⟨21, 53, 21, 54⟩) ⟨21, 39, 21, 54⟩) .nil) ⟨21, 7, 21, 54⟩) (.cons (.ret (.kb false 0 ⟨22, 15, 22, 20⟩) ⟨22, 8, 22, 20⟩)
    .nil) .nil ⟨21, 4, 22, 20⟩)
    (.cons (.asgT (.t2 1 "p" ⟨23, 4, 23, 5⟩ 2 "lower" ⟨23, 7, 23, 12⟩ 0 ⟨23, 4, 23, 12⟩) (.v 0 "value" ⟨23, 15, 23, 20⟩) ⟨23, 4, 23, 20⟩)
    (.cons (.iff (.bop .Or (.not (.call 0 "is_integer" ⟨24, 11, 24, 21⟩ (.v 1 "p" ⟨24, 22, 24, 23⟩) (.cons (.ki 2 0 ⟨24, 25, 24, 26⟩) (.cons (.ki 31 0 ⟨24, 28, 24, 30⟩) .nil)) ⟨24, 11, 24, 31⟩) ⟨24, 7, 24, 31⟩) (.cons (.cmp .NotIn (.v 1 "p" ⟨24, 35, 24, 36⟩) (.g 1 "PRIMES" ⟨24, 44, 24, 50⟩) ⟨24, 35, 24, 50⟩) (.cons (.not (.isi .tuple (.v 2 "lower" ⟨24, 70, 24, 75⟩) ⟨24, 59, 24, 69⟩ ⟨24, 77, 24, 82⟩ ⟨24, 59, 24, 83⟩) ⟨24, 55, 24, 83⟩) (.cons (.not (.chn .LtE .LtE (.ki 1 0 ⟨24, 93, 24, 94⟩) (.lenV 2 "lower" ⟨24, 102, 24, 107⟩ ⟨24, 98, 24, 101⟩ ⟨24, 98, 24, 108⟩) (.ki 5 0 ⟨24, 112, 24, 113⟩) ⟨24, 93, 24, 113⟩) ⟨24, 89, 24, 113⟩) .nil))) ⟨24, 7, 24, 114⟩) (.cons (.ret (.kb false 0 ⟨25, 15, 25, 20⟩) ⟨25, 8, 25, 20⟩)
    .nil) .nil ⟨24, 4, 25, 20⟩)
    (.cons (.ret (.bop .And (.cmp .LtE (.call 1 "times_itself" ⟨26, 11, 26, 23⟩ (.v 1 "p" ⟨26, 24, 26, 25⟩) (.cons (.lenV 2 "lower" ⟨26, 31, 26, 36⟩ ⟨26, 27, 26, 30⟩ ⟨26, 27, 26, 37⟩) .nil) ⟨26, 11, 26, 38⟩) (.g 0 "MOST" ⟨26, 42, 26, 46⟩) ⟨26, 11, 26, 46⟩) (.cons (.blt .all ⟨26, 51, 26, 54⟩ (.lc (.call 0 "is_integer" ⟨26, 56, 26, 66⟩ (.v 3 "one" ⟨26, 67, 26, 70⟩) (.cons (.ki 0 0 ⟨26, 72, 26, 73⟩) (.cons (.bin .Sub (.v 1 "p" ⟨26, 75, 26, 76⟩) (.ki 1 0 ⟨26, 79, 26, 80⟩) ⟨26, 75, 26, 80⟩) .nil)) ⟨26, 56, 26, 81⟩) (.n 3 "one" ⟨26, 86, 26, 89⟩) (.e (.v 2 "lower" ⟨26, 93, 26, 98⟩)) .no { kind := PySem.ScopeKind.function, names := [(PySem.Str.ofString ".0", PySem.NameKind.local), (PySem.Str.ofString "one", PySem.NameKind.local), (PySem.Str.ofString "is_integer", PySem.NameKind.globalImplicit), (PySem.Str.ofString "p", PySem.NameKind.free)], isGenerator := false, isCoroutine := false, more := [] } [("one", 3)] ⟨26, 55, 26, 99⟩) .nil ⟨26, 51, 26, 100⟩) .nil) ⟨26, 11, 26, 100⟩) ⟨26, 4, 26, 100⟩)
    .nil)))), defScope (topS 10)⟩
def fd_check_ring : Fd := ⟨"check_ring", false, [("ring", ⟨27, 15, 27, 19⟩)], ["ring"],
   (.cons (.iff (.not (.call 2 "is_ring" ⟨28, 11, 28, 18⟩ (.v 0 "ring" ⟨28, 19, 28, 23⟩) .nil ⟨28, 11, 28, 24⟩) ⟨28, 7, 28, 24⟩) (.cons (.raise 0 "InvalidRing" ⟨29, 14, 29, 25⟩ "not a ring" 0 ⟨29, 26, 29, 38⟩ ⟨29, 14, 29, 39⟩ ⟨29, 8, 29, 39⟩)
    .nil) .nil ⟨28, 4, 29, 39⟩)
    .nil), defScope (topS 11)⟩
def fd_size_of : Fd := ⟨"size_of", false, [("ring", ⟨30, 12, 30, 16⟩)], ["ring"],
   (.cons (.ret (.call 1 "times_itself" ⟨31, 11, 31, 23⟩ (.ixv 0 "ring" ⟨31, 24, 31, 28⟩ (.ki 0 0 ⟨31, 29, 31, 30⟩) ⟨31, 24, 31, 31⟩) (.cons (.blt .len ⟨31, 33, 31, 36⟩ (.ixv 0 "ring" ⟨31, 37, 31, 41⟩ (.ki 1 0 ⟨31, 42, 31, 43⟩) ⟨31, 37, 31, 44⟩) .nil ⟨31, 33, 31, 45⟩) .nil) ⟨31, 11, 31, 46⟩) ⟨31, 4, 31, 46⟩)
    .nil), defScope (topS 12)⟩
def fd_size : Fd := ⟨"size", false, [("ring", ⟨32, 9, 32, 13⟩)], ["ring"],
   (.cons (.expr (.call 3 "check_ring" ⟨33, 4, 33, 14⟩ (.v 0 "ring" ⟨33, 15, 33, 19⟩) .nil ⟨33, 4, 33, 20⟩) ⟨33, 4, 33, 20⟩)
    (.cons (.ret (.call 4 "size_of" ⟨34, 11, 34, 18⟩ (.v 0 "ring" ⟨34, 19, 34, 23⟩) .nil ⟨34, 11, 34, 24⟩) ⟨34, 4, 34, 24⟩)
    .nil)), defScope (topS 13)⟩
def fd_check_element : Fd := ⟨"check_element", false, [("ring", ⟨35, 18, 35, 22⟩), ("x", ⟨35, 24, 35, 25⟩)], ["ring", "x"],
   (.cons (.iff (.not (.call 0 "is_integer" ⟨36, 11, 36, 21⟩ (.v 1 "x" ⟨36, 22, 36, 23⟩) (.cons (.ki 0 0 ⟨36, 25, 36, 26⟩) (.cons (.bin .Sub (.call 4 "size_of" ⟨36, 28, 36, 35⟩ (.v 0 "ring" ⟨36, 36, 36, 40⟩) .nil ⟨36, 28, 36, 41⟩) (.ki 1 0 ⟨36, 44, 36, 45⟩) ⟨36, 28, 36, 45⟩) .nil)) ⟨36, 11, 36, 46⟩) ⟨36, 7, 36, 46⟩) (.cons (.raise 3 "InvalidElement" ⟨37, 14, 37, 28⟩ "not an element" 0 ⟨37, 29, 37, 45⟩ ⟨37, 14, 37, 46⟩ ⟨37, 8, 37, 46⟩)
    .nil) .nil ⟨36, 4, 37, 46⟩)
    .nil), defScope (topS 14)⟩
def fd_check_two : Fd := ⟨"check_two", false, [("ring", ⟨38, 14, 38, 18⟩), ("x", ⟨38, 20, 38, 21⟩), ("y", ⟨38, 23, 38, 24⟩)], ["ring", "x", "y"],
   (.cons (.expr (.call 3 "check_ring" ⟨39, 4, 39, 14⟩ (.v 0 "ring" ⟨39, 15, 39, 19⟩) .nil ⟨39, 4, 39, 20⟩) ⟨39, 4, 39, 20⟩)
    (.cons (.expr (.call 6 "check_element" ⟨40, 4, 40, 17⟩ (.v 0 "ring" ⟨40, 18, 40, 22⟩) (.cons (.v 1 "x" ⟨40, 24, 40, 25⟩) .nil) ⟨40, 4, 40, 26⟩) ⟨40, 4, 40, 26⟩)
    (.cons (.expr (.call 6 "check_element" ⟨41, 4, 41, 17⟩ (.v 0 "ring" ⟨41, 18, 41, 22⟩) (.cons (.v 2 "y" ⟨41, 24, 41, 25⟩) .nil) ⟨41, 4, 41, 26⟩) ⟨41, 4, 41, 26⟩)
    .nil))), defScope (topS 15)⟩
def fd_digits_of : Fd := ⟨"digits_of", false, [("ring", ⟨42, 14, 42, 18⟩), ("x", ⟨42, 20, 42, 21⟩)], ["ring", "x", "result", "again"],
   (.cons (.asg 2 "result" ⟨43, 4, 43, 10⟩ (.lst .nil ⟨43, 13, 43, 15⟩) ⟨43, 4, 43, 15⟩)
    (.cons (.forr (.n 3 "again" ⟨44, 8, 44, 13⟩) (.e (.ixv 0 "ring" ⟨44, 17, 44, 21⟩ (.ki 1 0 ⟨44, 22, 44, 23⟩) ⟨44, 17, 44, 24⟩)) (.cons (.app 2 "result" ⟨45, 8, 45, 14⟩ (.bin .Mod (.v 1 "x" ⟨45, 22, 45, 23⟩) (.ixv 0 "ring" ⟨45, 26, 45, 30⟩ (.ki 0 0 ⟨45, 31, 45, 32⟩) ⟨45, 26, 45, 33⟩) ⟨45, 22, 45, 33⟩) ⟨45, 8, 45, 21⟩ ⟨45, 8, 45, 34⟩ ⟨45, 8, 45, 34⟩)
    (.cons (.asg 1 "x" ⟨46, 8, 46, 9⟩ (.bin .FloorDiv (.v 1 "x" ⟨46, 12, 46, 13⟩) (.ixv 0 "ring" ⟨46, 17, 46, 21⟩ (.ki 0 0 ⟨46, 22, 46, 23⟩) ⟨46, 17, 46, 24⟩) ⟨46, 12, 46, 24⟩) ⟨46, 8, 46, 24⟩)
    .nil)) ⟨44, 4, 46, 24⟩)
    (.cons (.ret (.v 2 "result" ⟨47, 11, 47, 17⟩) ⟨47, 4, 47, 17⟩)
    .nil))), defScope (topS 16)⟩
def fd_element_of : Fd := ⟨"element_of", false, [("ring", ⟨48, 15, 48, 19⟩), ("coefficients", ⟨48, 21, 48, 33⟩)], ["ring", "coefficients", "x", "one"],
   (.cons (.asg 2 "x" ⟨49, 4, 49, 5⟩ (.ki 0 0 ⟨49, 8, 49, 9⟩) ⟨49, 4, 49, 9⟩)
    (.cons (.forr (.n 3 "one" ⟨50, 8, 50, 11⟩) (.e (.rev (.v 1 "coefficients" ⟨50, 15, 50, 27⟩) 0 ⟨50, 31, 50, 32⟩ ⟨50, 30, 50, 32⟩ ⟨50, 28, 50, 32⟩ ⟨50, 15, 50, 33⟩)) (.cons (.asg 2 "x" ⟨51, 8, 51, 9⟩ (.bin .Add (.bin .Mult (.v 2 "x" ⟨51, 12, 51, 13⟩) (.ixv 0 "ring" ⟨51, 16, 51, 20⟩ (.ki 0 0 ⟨51, 21, 51, 22⟩) ⟨51, 16, 51, 23⟩) ⟨51, 12, 51, 23⟩) (.bin .Mod (.v 3 "one" ⟨51, 26, 51, 29⟩) (.ixv 0 "ring" ⟨51, 32, 51, 36⟩ (.ki 0 0 ⟨51, 37, 51, 38⟩) ⟨51, 32, 51, 39⟩) ⟨51, 26, 51, 39⟩) ⟨51, 12, 51, 39⟩) ⟨51, 8, 51, 39⟩)
    .nil) ⟨50, 4, 51, 39⟩)
    (.cons (.ret (.v 2 "x" ⟨52, 11, 52, 12⟩) ⟨52, 4, 52, 12⟩)
    .nil))), defScope (topS 17)⟩
def fd_plus : Fd := ⟨"plus", false, [("ring", ⟨53, 9, 53, 13⟩), ("x", ⟨53, 15, 53, 16⟩), ("y", ⟨53, 18, 53, 19⟩)], ["ring", "x", "y", "one", "other"],
   (.cons (.ret (.call 9 "element_of" ⟨54, 11, 54, 21⟩ (.v 0 "ring" ⟨54, 22, 54, 26⟩) (.cons (.lc (.bin .Add (.v 3 "one" ⟨54, 29, 54, 32⟩) (.v 4 "other" ⟨54, 35, 54, 40⟩) ⟨54, 29, 54, 40⟩) (.t2 3 "one" ⟨54, 45, 54, 48⟩ 4 "other" ⟨54, 50, 54, 55⟩ 0 ⟨54, 45, 54, 55⟩) (.zp ⟨54, 59, 54, 62⟩ (.call 8 "digits_of" ⟨54, 63, 54, 72⟩ (.v 0 "ring" ⟨54, 73, 54, 77⟩) (.cons (.v 1 "x" ⟨54, 79, 54, 80⟩) .nil) ⟨54, 63, 54, 81⟩) (.call 8 "digits_of" ⟨54, 83, 54, 92⟩ (.v 0 "ring" ⟨54, 93, 54, 97⟩) (.cons (.v 2 "y" ⟨54, 99, 54, 100⟩) .nil) ⟨54, 83, 54, 101⟩) ⟨54, 59, 54, 102⟩) .no { kind := PySem.ScopeKind.function, names := [(PySem.Str.ofString ".0", PySem.NameKind.local), (PySem.Str.ofString "one", PySem.NameKind.local), (PySem.Str.ofString "other", PySem.NameKind.local)], isGenerator := false, isCoroutine := false, more := [] } [("one", 3), ("other", 4)] ⟨54, 28, 54, 103⟩) .nil) ⟨54, 11, 54, 104⟩) ⟨54, 4, 54, 104⟩)
    .nil), defScope (topS 18)⟩
def fd_times : Fd := ⟨"times", false, [("ring", ⟨55, 10, 55, 14⟩), ("x", ⟨55, 16, 55, 17⟩), ("y", ⟨55, 19, 55, 20⟩)], ["ring", "x", "y", "p", "lower", "count", "product", "i", "one", "j", "other", "at"],
   (.cons (.asgT (.t2 3 "p" ⟨56, 4, 56, 5⟩ 4 "lower" ⟨56, 7, 56, 12⟩ 0 ⟨56, 4, 56, 12⟩) (.v 0 "ring" ⟨56, 15, 56, 19⟩) ⟨56, 4, 56, 19⟩)
    (.cons (.asg 5 "count" ⟨57, 4, 57, 9⟩ (.lenV 4 "lower" ⟨57, 16, 57, 21⟩ ⟨57, 12, 57, 15⟩ ⟨57, 12, 57, 22⟩) ⟨57, 4, 57, 22⟩)
    (.cons (.asg 6 "product" ⟨58, 4, 58, 11⟩ (.bin .Mult (.lst (.cons (.ki 0 0 ⟨58, 15, 58, 16⟩) .nil) ⟨58, 14, 58, 17⟩) (.bin .Mult (.ki 2 0 ⟨58, 21, 58, 22⟩) (.v 5 "count" ⟨58, 25, 58, 30⟩) ⟨58, 21, 58, 30⟩) ⟨58, 14, 58, 31⟩) ⟨58, 4, 58, 31⟩)
    (.cons (.forr (.t2 7 "i" ⟨59, 8, 59, 9⟩ 8 "one" ⟨59, 11, 59, 14⟩ 0 ⟨59, 8, 59, 14⟩) (.en ⟨59, 18, 59, 27⟩ (.call 8 "digits_of" ⟨59, 28, 59, 37⟩ (.v 0 "ring" ⟨59, 38, 59, 42⟩) (.cons (.v 1 "x" ⟨59, 44, 59, 45⟩) .nil) ⟨59, 28, 59, 46⟩) ⟨59, 18, 59, 47⟩) (.cons (.forr (.t2 9 "j" ⟨60, 12, 60, 13⟩ 10 "other" ⟨60, 15, 60, 20⟩ 0 ⟨60, 12, 60, 20⟩) (.en ⟨60, 24, 60, 33⟩ (.call 8 "digits_of" ⟨60, 34, 60, 43⟩ (.v 0 "ring" ⟨60, 44, 60, 48⟩) (.cons (.v 2 "y" ⟨60, 50, 60, 51⟩) .nil) ⟨60, 34, 60, 52⟩) ⟨60, 24, 60, 53⟩) (.cons (.augIx .Add 6 "product" ⟨61, 12, 61, 19⟩ (.bin .Add (.v 7 "i" ⟨61, 20, 61, 21⟩) (.v 9 "j" ⟨61, 24, 61, 25⟩) ⟨61, 20, 61, 25⟩) (.bin .Mult (.v 8 "one" ⟨61, 30, 61, 33⟩) (.v 10 "other" ⟨61, 36, 61, 41⟩) ⟨61, 30, 61, 41⟩) ⟨61, 12, 61, 26⟩ ⟨61, 12, 61, 41⟩)
    .nil) ⟨60, 8, 61, 41⟩)
    .nil) ⟨59, 4, 61, 41⟩)
    (.cons (.forr (.n 11 "at" ⟨62, 8, 62, 10⟩) (.r3 ⟨62, 14, 62, 19⟩ (.bin .Sub (.bin .Mult (.ki 2 0 ⟨62, 20, 62, 21⟩) (.v 5 "count" ⟨62, 24, 62, 29⟩) ⟨62, 20, 62, 29⟩) (.ki 1 0 ⟨62, 32, 62, 33⟩) ⟨62, 20, 62, 33⟩) (.bin .Sub (.v 5 "count" ⟨62, 35, 62, 40⟩) (.ki 1 0 ⟨62, 43, 62, 44⟩) ⟨62, 35, 62, 44⟩) (.neg (.ki 1 0 ⟨62, 47, 62, 48⟩) ⟨62, 46, 62, 48⟩) ⟨62, 14, 62, 49⟩) (.cons (.forr (.t2 7 "i" ⟨63, 12, 63, 13⟩ 8 "one" ⟨63, 15, 63, 18⟩ 0 ⟨63, 12, 63, 18⟩) (.en ⟨63, 22, 63, 31⟩ (.v 4 "lower" ⟨63, 32, 63, 37⟩) ⟨63, 22, 63, 38⟩) (.cons (.augIx .Sub 6 "product" ⟨64, 12, 64, 19⟩ (.bin .Add (.bin .Sub (.v 11 "at" ⟨64, 20, 64, 22⟩) (.v 5 "count" ⟨64, 25, 64, 30⟩) ⟨64, 20, 64, 30⟩) (.v 7 "i" ⟨64, 33, 64, 34⟩) ⟨64, 20, 64, 34⟩) (.bin .Mult (.v 8 "one" ⟨64, 39, 64, 42⟩) (.ixv 6 "product" ⟨64, 45, 64, 52⟩ (.v 11 "at" ⟨64, 53, 64, 55⟩) ⟨64, 45, 64, 56⟩) ⟨64, 39, 64, 56⟩) ⟨64, 12, 64, 35⟩ ⟨64, 12, 64, 56⟩)
    .nil) ⟨63, 8, 64, 56⟩)
    .nil) ⟨62, 4, 64, 56⟩)
    (.cons (.ret (.call 9 "element_of" ⟨65, 11, 65, 21⟩ (.v 0 "ring" ⟨65, 22, 65, 26⟩) (.cons (.sl (.v 6 "product" ⟨65, 28, 65, 35⟩) .no (.v 5 "count" ⟨65, 37, 65, 42⟩) ⟨65, 36, 65, 42⟩ ⟨65, 28, 65, 43⟩) .nil) ⟨65, 11, 65, 44⟩) ⟨65, 4, 65, 44⟩)
    .nil)))))), defScope (topS 19)⟩
def fd_minus : Fd := ⟨"minus", false, [("ring", ⟨66, 10, 66, 14⟩), ("x", ⟨66, 16, 66, 17⟩)], ["ring", "x", "one"],
   (.cons (.ret (.call 9 "element_of" ⟨67, 11, 67, 21⟩ (.v 0 "ring" ⟨67, 22, 67, 26⟩) (.cons (.lc (.bin .Sub (.ki 0 0 ⟨67, 29, 67, 30⟩) (.v 2 "one" ⟨67, 33, 67, 36⟩) ⟨67, 29, 67, 36⟩) (.n 2 "one" ⟨67, 41, 67, 44⟩) (.e (.call 8 "digits_of" ⟨67, 48, 67, 57⟩ (.v 0 "ring" ⟨67, 58, 67, 62⟩) (.cons (.v 1 "x" ⟨67, 64, 67, 65⟩) .nil) ⟨67, 48, 67, 66⟩)) .no { kind := PySem.ScopeKind.function, names := [(PySem.Str.ofString ".0", PySem.NameKind.local), (PySem.Str.ofString "one", PySem.NameKind.local)], isGenerator := false, isCoroutine := false, more := [] } [("one", 2)] ⟨67, 28, 67, 67⟩) .nil) ⟨67, 11, 67, 68⟩) ⟨67, 4, 67, 68⟩)
    .nil), defScope (topS 20)⟩
def fd_raised : Fd := ⟨"raised", false, [("ring", ⟨68, 11, 68, 15⟩), ("x", ⟨68, 17, 68, 18⟩), ("exponent", ⟨68, 20, 68, 28⟩)], ["ring", "x", "exponent", "result"],
   (.cons (.asg 3 "result" ⟨69, 4, 69, 10⟩ (.ki 1 0 ⟨69, 13, 69, 14⟩) ⟨69, 4, 69, 14⟩)
    (.cons (.whl 100 (.cmp .Gt (.v 2 "exponent" ⟨70, 10, 70, 18⟩) (.ki 0 0 ⟨70, 21, 70, 22⟩) ⟨70, 10, 70, 22⟩) (.cons (.iff (.cmp .Eq (.bin .Mod (.v 2 "exponent" ⟨71, 11, 71, 19⟩) (.ki 2 0 ⟨71, 22, 71, 23⟩) ⟨71, 11, 71, 23⟩) (.ki 1 0 ⟨71, 27, 71, 28⟩) ⟨71, 11, 71, 28⟩) (.cons (.asg 3 "result" ⟨72, 12, 72, 18⟩ (.call 11 "times" ⟨72, 21, 72, 26⟩ (.v 0 "ring" ⟨72, 27, 72, 31⟩) (.cons (.v 3 "result" ⟨72, 33, 72, 39⟩) (.cons (.v 1 "x" ⟨72, 41, 72, 42⟩) .nil)) ⟨72, 21, 72, 43⟩) ⟨72, 12, 72, 43⟩)
    .nil) .nil ⟨71, 8, 72, 43⟩)
    (.cons (.par 1 "x" ⟨73, 8, 73, 9⟩ 2 "exponent" ⟨73, 11, 73, 19⟩ (.call 11 "times" ⟨73, 23, 73, 28⟩ (.v 0 "ring" ⟨73, 29, 73, 33⟩) (.cons (.v 1 "x" ⟨73, 35, 73, 36⟩) (.cons (.v 1 "x" ⟨73, 38, 73, 39⟩) .nil)) ⟨73, 23, 73, 40⟩) (.bin .FloorDiv (.v 2 "exponent" ⟨73, 42, 73, 50⟩) (.ki 2 0 ⟨73, 54, 73, 55⟩) ⟨73, 42, 73, 55⟩) 0 ⟨73, 8, 73, 19⟩ 0 ⟨73, 22, 73, 56⟩ ⟨73, 8, 73, 56⟩)
    .nil)) ⟨70, 4, 73, 56⟩)
    (.cons (.ret (.v 3 "result" ⟨74, 11, 74, 17⟩) ⟨74, 4, 74, 17⟩)
    .nil))), defScope (topS 21)⟩
def fd_add : Fd := ⟨"add", false, [("ring", ⟨75, 8, 75, 12⟩), ("x", ⟨75, 14, 75, 15⟩), ("y", ⟨75, 17, 75, 18⟩)], ["ring", "x", "y"],
   (.cons (.expr (.call 7 "check_two" ⟨76, 4, 76, 13⟩ (.v 0 "ring" ⟨76, 14, 76, 18⟩) (.cons (.v 1 "x" ⟨76, 20, 76, 21⟩) (.cons (.v 2 "y" ⟨76, 23, 76, 24⟩) .nil)) ⟨76, 4, 76, 25⟩) ⟨76, 4, 76, 25⟩)
    (.cons (.ret (.call 10 "plus" ⟨77, 11, 77, 15⟩ (.v 0 "ring" ⟨77, 16, 77, 20⟩) (.cons (.v 1 "x" ⟨77, 22, 77, 23⟩) (.cons (.v 2 "y" ⟨77, 25, 77, 26⟩) .nil)) ⟨77, 11, 77, 27⟩) ⟨77, 4, 77, 27⟩)
    .nil)), defScope (topS 22)⟩
def fd_multiply : Fd := ⟨"multiply", false, [("ring", ⟨78, 13, 78, 17⟩), ("x", ⟨78, 19, 78, 20⟩), ("y", ⟨78, 22, 78, 23⟩)], ["ring", "x", "y"],
   (.cons (.expr (.call 7 "check_two" ⟨79, 4, 79, 13⟩ (.v 0 "ring" ⟨79, 14, 79, 18⟩) (.cons (.v 1 "x" ⟨79, 20, 79, 21⟩) (.cons (.v 2 "y" ⟨79, 23, 79, 24⟩) .nil)) ⟨79, 4, 79, 25⟩) ⟨79, 4, 79, 25⟩)
    (.cons (.ret (.call 11 "times" ⟨80, 11, 80, 16⟩ (.v 0 "ring" ⟨80, 17, 80, 21⟩) (.cons (.v 1 "x" ⟨80, 23, 80, 24⟩) (.cons (.v 2 "y" ⟨80, 26, 80, 27⟩) .nil)) ⟨80, 11, 80, 28⟩) ⟨80, 4, 80, 28⟩)
    .nil)), defScope (topS 23)⟩
def fd_negative : Fd := ⟨"negative", false, [("ring", ⟨81, 13, 81, 17⟩), ("x", ⟨81, 19, 81, 20⟩)], ["ring", "x"],
   (.cons (.expr (.call 3 "check_ring" ⟨82, 4, 82, 14⟩ (.v 0 "ring" ⟨82, 15, 82, 19⟩) .nil ⟨82, 4, 82, 20⟩) ⟨82, 4, 82, 20⟩)
    (.cons (.expr (.call 6 "check_element" ⟨83, 4, 83, 17⟩ (.v 0 "ring" ⟨83, 18, 83, 22⟩) (.cons (.v 1 "x" ⟨83, 24, 83, 25⟩) .nil) ⟨83, 4, 83, 26⟩) ⟨83, 4, 83, 26⟩)
    (.cons (.ret (.call 12 "minus" ⟨84, 11, 84, 16⟩ (.v 0 "ring" ⟨84, 17, 84, 21⟩) (.cons (.v 1 "x" ⟨84, 23, 84, 24⟩) .nil) ⟨84, 11, 84, 25⟩) ⟨84, 4, 84, 25⟩)
    .nil))), defScope (topS 24)⟩
def fd_power : Fd := ⟨"power", false, [("ring", ⟨85, 10, 85, 14⟩), ("x", ⟨85, 16, 85, 17⟩), ("exponent", ⟨85, 19, 85, 27⟩)], ["ring", "x", "exponent"],
   (.cons (.expr (.call 3 "check_ring" ⟨86, 4, 86, 14⟩ (.v 0 "ring" ⟨86, 15, 86, 19⟩) .nil ⟨86, 4, 86, 20⟩) ⟨86, 4, 86, 20⟩)
    (.cons (.expr (.call 6 "check_element" ⟨87, 4, 87, 17⟩ (.v 0 "ring" ⟨87, 18, 87, 22⟩) (.cons (.v 1 "x" ⟨87, 24, 87, 25⟩) .nil) ⟨87, 4, 87, 26⟩) ⟨87, 4, 87, 26⟩)
    (.cons (.iff (.not (.call 0 "is_integer" ⟨88, 11, 88, 21⟩ (.v 2 "exponent" ⟨88, 22, 88, 30⟩) (.cons (.ki 0 0 ⟨88, 32, 88, 33⟩) (.cons (.ki 9999 0 ⟨88, 35, 88, 39⟩) .nil)) ⟨88, 11, 88, 40⟩) ⟨88, 7, 88, 40⟩) (.cons (.raise 4 "InvalidNumber" ⟨89, 14, 89, 27⟩ "not an exponent" 0 ⟨89, 28, 89, 45⟩ ⟨89, 14, 89, 46⟩ ⟨89, 8, 89, 46⟩)
    .nil) .nil ⟨88, 4, 89, 46⟩)
    (.cons (.ret (.call 13 "raised" ⟨90, 11, 90, 17⟩ (.v 0 "ring" ⟨90, 18, 90, 22⟩) (.cons (.v 1 "x" ⟨90, 24, 90, 25⟩) (.cons (.v 2 "exponent" ⟨90, 27, 90, 35⟩) .nil)) ⟨90, 11, 90, 36⟩) ⟨90, 4, 90, 36⟩)
    .nil)))), defScope (topS 25)⟩
def fd_law_cell_at : Fd := ⟨"_law_cell_at", false, [("_law_script", ⟨92, 17, 92, 28⟩), ("_law_k", ⟨92, 30, 92, 36⟩)], ["_law_script", "_law_k", "_law_spare", "_law_again"],
   (.cons (.iff (.cmp .Lt (.v 1 "_law_k" ⟨93, 7, 93, 13⟩) (.lenV 0 "_law_script" ⟨93, 20, 93, 31⟩ ⟨93, 16, 93, 19⟩ ⟨93, 16, 93, 32⟩) ⟨93, 7, 93, 32⟩) (.cons (.ret (.ixv 0 "_law_script" ⟨94, 15, 94, 26⟩ (.v 1 "_law_k" ⟨94, 27, 94, 33⟩) ⟨94, 15, 94, 34⟩) ⟨94, 8, 94, 34⟩)
    .nil) .nil ⟨93, 4, 94, 34⟩)
    (.cons (.iff (.cmp .Eq (.v 0 "_law_script" ⟨95, 7, 95, 18⟩) (.lst .nil ⟨95, 22, 95, 24⟩) ⟨95, 7, 95, 24⟩) (.cons (.ret (.ki 0 0 ⟨96, 15, 96, 16⟩) ⟨96, 8, 96, 16⟩)
    .nil) .nil ⟨95, 4, 96, 16⟩)
    (.cons (.asg 2 "_law_spare" ⟨97, 4, 97, 14⟩ (.ixv 0 "_law_script" ⟨97, 17, 97, 28⟩ (.bin .Mod (.v 1 "_law_k" ⟨97, 29, 97, 35⟩) (.lenV 0 "_law_script" ⟨97, 42, 97, 53⟩ ⟨97, 38, 97, 41⟩ ⟨97, 38, 97, 54⟩) ⟨97, 29, 97, 54⟩) ⟨97, 17, 97, 55⟩) ⟨97, 4, 97, 55⟩)
    (.cons (.forr (.n 3 "_law_again" ⟨98, 8, 98, 18⟩) (.r1 ⟨98, 22, 98, 27⟩ (.blt .min ⟨98, 28, 98, 31⟩ (.bin .FloorDiv (.v 1 "_law_k" ⟨98, 32, 98, 38⟩) (.lenV 0 "_law_script" ⟨98, 46, 98, 57⟩ ⟨98, 42, 98, 45⟩ ⟨98, 42, 98, 58⟩) ⟨98, 32, 98, 58⟩) (.cons (.ki 60 0 ⟨98, 60, 98, 62⟩) .nil) ⟨98, 28, 98, 63⟩) ⟨98, 22, 98, 64⟩) (.cons (.asg 2 "_law_spare" ⟨99, 8, 99, 18⟩ (.bin .FloorDiv (.v 2 "_law_spare" ⟨99, 21, 99, 31⟩) (.ki 1000003 0 ⟨99, 35, 99, 42⟩) ⟨99, 21, 99, 42⟩) ⟨99, 8, 99, 42⟩)
    .nil) ⟨98, 4, 99, 42⟩)
    (.cons (.ret (.bin .Add (.bin .Add (.bin .Mult (.ixv 0 "_law_script" ⟨100, 11, 100, 22⟩ (.bin .Mod (.v 1 "_law_k" ⟨100, 23, 100, 29⟩) (.lenV 0 "_law_script" ⟨100, 36, 100, 47⟩ ⟨100, 32, 100, 35⟩ ⟨100, 32, 100, 48⟩) ⟨100, 23, 100, 48⟩) ⟨100, 11, 100, 49⟩) (.ki 31 0 ⟨100, 52, 100, 54⟩) ⟨100, 11, 100, 54⟩) (.v 1 "_law_k" ⟨100, 57, 100, 63⟩) ⟨100, 11, 100, 63⟩) (.bin .Mult (.v 2 "_law_spare" ⟨100, 66, 100, 76⟩) (.ki 101 0 ⟨100, 79, 100, 82⟩) ⟨100, 66, 100, 82⟩) ⟨100, 11, 100, 82⟩) ⟨100, 4, 100, 82⟩)
    .nil))))), defScope (topS 27)⟩
def fd_law_mixed : Fd := ⟨"_law_mixed", false, [("_law_script", ⟨101, 15, 101, 26⟩), ("_law_k", ⟨101, 28, 101, 34⟩), ("_law_many", ⟨101, 36, 101, 45⟩)], ["_law_script", "_law_k", "_law_many", "_law_spun"],
   (.cons (.asg 3 "_law_spun" ⟨102, 4, 102, 13⟩ (.bin .Mod (.bin .Add (.bin .Add (.bin .Mult (.call 18 "_law_cell_at" ⟨102, 17, 102, 29⟩ (.v 0 "_law_script" ⟨102, 30, 102, 41⟩) (.cons (.v 1 "_law_k" ⟨102, 43, 102, 49⟩) .nil) ⟨102, 17, 102, 50⟩) (.ki 1103515245 0 ⟨102, 53, 102, 63⟩) ⟨102, 17, 102, 63⟩) (.bin .Mult (.ki 7919 0 ⟨102, 66, 102, 70⟩) (.v 1 "_law_k" ⟨102, 73, 102, 79⟩) ⟨102, 66, 102, 79⟩) ⟨102, 17, 102, 79⟩) (.ki 12345 0 ⟨102, 82, 102, 87⟩) ⟨102, 17, 102, 87⟩) (.ki 2147483647 0 ⟨102, 91, 102, 101⟩) ⟨102, 16, 102, 101⟩) ⟨102, 4, 102, 101⟩)
    (.cons (.ret (.bin .Mod (.bin .Mod (.bin .Mod (.bin .Pow (.v 3 "_law_spun" ⟨103, 11, 103, 20⟩) (.ki 5 0 ⟨103, 24, 103, 25⟩) ⟨103, 11, 103, 25⟩) (.ki 2147483647 0 ⟨103, 28, 103, 38⟩) ⟨103, 11, 103, 38⟩) (.ki 999983 0 ⟨103, 41, 103, 47⟩) ⟨103, 11, 103, 47⟩) (.v 2 "_law_many" ⟨103, 50, 103, 59⟩) ⟨103, 11, 103, 59⟩) ⟨103, 4, 103, 59⟩)
    .nil)), defScope (topS 28)⟩
def fd_law_draw : Fd := ⟨"_law_draw", true, [("_law_script", ⟨104, 14, 104, 25⟩), ("_law_town", ⟨104, 27, 104, 36⟩), ("_law_many", ⟨104, 38, 104, 47⟩)], ["_law_script", "_law_town", "_law_many"],
   (.cons (.app 1 "_law_town" ⟨105, 4, 105, 13⟩ (.ki 0 0 ⟨105, 21, 105, 22⟩) ⟨105, 4, 105, 20⟩ ⟨105, 4, 105, 23⟩ ⟨105, 4, 105, 23⟩)
    (.cons (.ret (.call 19 "_law_mixed" ⟨106, 11, 106, 21⟩ (.v 0 "_law_script" ⟨106, 22, 106, 33⟩) (.cons (.lenV 1 "_law_town" ⟨106, 39, 106, 48⟩ ⟨106, 35, 106, 38⟩ ⟨106, 35, 106, 49⟩) (.cons (.v 2 "_law_many" ⟨106, 51, 106, 60⟩) .nil)) ⟨106, 11, 106, 61⟩) ⟨106, 4, 106, 61⟩)
    .nil)), defScope (topS 29)⟩
def fd_law_same_number : Fd := ⟨"_law_same_number", false, [("_law_got", ⟨107, 21, 107, 29⟩), ("_law_due", ⟨107, 31, 107, 39⟩)], ["_law_got", "_law_due"],
   (.cons (.ret (.bop .And (.isi .int (.v 0 "_law_got" ⟨108, 22, 108, 30⟩) ⟨108, 11, 108, 21⟩ ⟨108, 32, 108, 35⟩ ⟨108, 11, 108, 36⟩) (.cons (.not (.isi .bool (.v 0 "_law_got" ⟨108, 57, 108, 65⟩) ⟨108, 46, 108, 56⟩ ⟨108, 67, 108, 71⟩ ⟨108, 46, 108, 72⟩) ⟨108, 42, 108, 72⟩) (.cons (.cmp .Eq (.v 0 "_law_got" ⟨108, 79, 108, 87⟩) (.v 1 "_law_due" ⟨108, 91, 108, 99⟩) ⟨108, 79, 108, 99⟩) .nil)) ⟨108, 11, 108, 100⟩) ⟨108, 4, 108, 100⟩)
    .nil), defScope (topS 30)⟩
def fd_law_pick : Fd := ⟨"_law_pick", true, [("_law_script", ⟨109, 14, 109, 25⟩), ("_law_town", ⟨109, 27, 109, 36⟩), ("_law_some", ⟨109, 38, 109, 47⟩)], ["_law_script", "_law_town", "_law_some"],
   (.cons (.ret (.ixv 2 "_law_some" ⟨110, 11, 110, 20⟩ (.callI 20 "_law_draw" ⟨110, 21, 110, 30⟩ (.v 0 "_law_script" ⟨110, 31, 110, 42⟩) 1 "_law_town" ⟨110, 44, 110, 53⟩ (.cons (.lenV 2 "_law_some" ⟨110, 59, 110, 68⟩ ⟨110, 55, 110, 58⟩ ⟨110, 55, 110, 69⟩) .nil) ⟨110, 21, 110, 70⟩) ⟨110, 11, 110, 71⟩) ⟨110, 4, 110, 71⟩)
    .nil), defScope (topS 31)⟩
def fd_law_some_ring : Fd := ⟨"_law_some_ring", true, [("_law_script", ⟨111, 19, 111, 30⟩), ("_law_town", ⟨111, 32, 111, 41⟩)], ["_law_script", "_law_town", "_law_some", "_law_p", "_law_degree", "_law_again"],
   (.cons (.asg 2 "_law_some" ⟨112, 4, 112, 13⟩ (.lst (.cons (.tup (.cons (.ki 2 0 ⟨112, 18, 112, 19⟩) (.cons (.ki 1 0 ⟨112, 21, 112, 22⟩) .nil)) 0 ⟨112, 17, 112, 23⟩) (.cons (.tup (.cons (.ki 2 0 ⟨112, 26, 112, 27⟩) (.cons (.ki 2 0 ⟨112, 29, 112, 30⟩) .nil)) 0 ⟨112, 25, 112, 31⟩) (.cons (.tup (.cons (.ki 2 0 ⟨112, 34, 112, 35⟩) (.cons (.ki 3 0 ⟨112, 37, 112, 38⟩) .nil)) 0 ⟨112, 33, 112, 39⟩) (.cons (.tup (.cons (.ki 2 0 ⟨112, 42, 112, 43⟩) (.cons (.ki 4 0 ⟨112, 45, 112, 46⟩) .nil)) 0 ⟨112, 41, 112, 47⟩) (.cons (.tup (.cons (.ki 2 0 ⟨112, 50, 112, 51⟩) (.cons (.ki 5 0 ⟨112, 53, 112, 54⟩) .nil)) 0 ⟨112, 49, 112, 55⟩) (.cons (.tup (.cons (.ki 3 0 ⟨112, 58, 112, 59⟩) (.cons (.ki 1 0 ⟨112, 61, 112, 62⟩) .nil)) 0 ⟨112, 57, 112, 63⟩) (.cons (.tup (.cons (.ki 3 0 ⟨112, 66, 112, 67⟩) (.cons (.ki 2 0 ⟨112, 69, 112, 70⟩) .nil)) 0 ⟨112, 65, 112, 71⟩) (.cons (.tup (.cons (.ki 3 0 ⟨112, 74, 112, 75⟩) (.cons (.ki 3 0 ⟨112, 77, 112, 78⟩) .nil)) 0 ⟨112, 73, 112, 79⟩) (.cons (.tup (.cons (.ki 5 0 ⟨112, 82, 112, 83⟩) (.cons (.ki 1 0 ⟨112, 85, 112, 86⟩) .nil)) 0 ⟨112, 81, 112, 87⟩) (.cons (.tup (.cons (.ki 5 0 ⟨112, 90, 112, 91⟩) (.cons (.ki 2 0 ⟨112, 93, 112, 94⟩) .nil)) 0 ⟨112, 89, 112, 95⟩) (.cons (.tup (.cons (.ki 7 0 ⟨112, 98, 112, 99⟩) (.cons (.ki 1 0 ⟨112, 101, 112, 102⟩) .nil)) 0 ⟨112, 97, 112, 103⟩) (.cons (.tup (.cons (.ki 11 0 ⟨112, 106, 112, 108⟩) (.cons (.ki 1 0 ⟨112, 110, 112, 111⟩) .nil)) 0 ⟨112, 105, 112, 112⟩) .nil)))))))))))) ⟨112, 16, 112, 113⟩) ⟨112, 4, 112, 113⟩)
    (.cons (.asgT (.t2 3 "_law_p" ⟨113, 4, 113, 10⟩ 4 "_law_degree" ⟨113, 12, 113, 23⟩ 0 ⟨113, 4, 113, 23⟩) (.callI 22 "_law_pick" ⟨113, 26, 113, 35⟩ (.v 0 "_law_script" ⟨113, 36, 113, 47⟩) 1 "_law_town" ⟨113, 49, 113, 58⟩ (.cons (.v 2 "_law_some" ⟨113, 60, 113, 69⟩) .nil) ⟨113, 26, 113, 70⟩) ⟨113, 4, 113, 70⟩)
    (.cons (.ret (.tup (.cons (.v 3 "_law_p" ⟨114, 12, 114, 18⟩) (.cons (.blt .tuple ⟨114, 20, 114, 25⟩ (.lc (.callI 20 "_law_draw" ⟨114, 27, 114, 36⟩ (.v 0 "_law_script" ⟨114, 37, 114, 48⟩) 1 "_law_town" ⟨114, 50, 114, 59⟩ (.cons (.v 3 "_law_p" ⟨114, 61, 114, 67⟩) .nil) ⟨114, 27, 114, 68⟩) (.n 5 "_law_again" ⟨114, 73, 114, 83⟩) (.r1 ⟨114, 87, 114, 92⟩ (.v 4 "_law_degree" ⟨114, 93, 114, 104⟩) ⟨114, 87, 114, 105⟩) .no { kind := PySem.ScopeKind.function, names := [(PySem.Str.ofString ".0", PySem.NameKind.local), (PySem.Str.ofString "_law_again", PySem.NameKind.local), (PySem.Str.ofString "_law_draw", PySem.NameKind.globalImplicit), (PySem.Str.ofString "_law_p", PySem.NameKind.free), (PySem.Str.ofString "_law_script", PySem.NameKind.free), (PySem.Str.ofString "_law_town", PySem.NameKind.free)], isGenerator := false, isCoroutine := false, more := [] } [("_law_again", 5)] ⟨114, 26, 114, 106⟩) .nil ⟨114, 20, 114, 107⟩) .nil)) 0 ⟨114, 11, 114, 108⟩) ⟨114, 4, 114, 108⟩)
    .nil))), defScope (topS 32)⟩
def fd_law_size_here : Fd := ⟨"_law_size_here", false, [("_law_ring", ⟨115, 19, 115, 28⟩)], ["_law_ring", "_law_q", "_law_one"],
   (.cons (.asg 1 "_law_q" ⟨116, 4, 116, 10⟩ (.ki 1 0 ⟨116, 13, 116, 14⟩) ⟨116, 4, 116, 14⟩)
    (.cons (.forr (.n 2 "_law_one" ⟨117, 8, 117, 16⟩) (.e (.ixv 0 "_law_ring" ⟨117, 20, 117, 29⟩ (.ki 1 0 ⟨117, 30, 117, 31⟩) ⟨117, 20, 117, 32⟩)) (.cons (.asg 1 "_law_q" ⟨118, 8, 118, 14⟩ (.bin .Mult (.v 1 "_law_q" ⟨118, 17, 118, 23⟩) (.ixv 0 "_law_ring" ⟨118, 26, 118, 35⟩ (.ki 0 0 ⟨118, 36, 118, 37⟩) ⟨118, 26, 118, 38⟩) ⟨118, 17, 118, 38⟩) ⟨118, 8, 118, 38⟩)
    .nil) ⟨117, 4, 118, 38⟩)
    (.cons (.ret (.v 1 "_law_q" ⟨119, 11, 119, 17⟩) ⟨119, 4, 119, 17⟩)
    .nil))), defScope (topS 33)⟩
def fd_law_coefs : Fd := ⟨"_law_coefs", false, [("_law_ring", ⟨120, 15, 120, 24⟩), ("_law_x", ⟨120, 26, 120, 32⟩)], ["_law_ring", "_law_x", "_law_made", "_law_one"],
   (.cons (.asg 2 "_law_made" ⟨121, 4, 121, 13⟩ (.lst .nil ⟨121, 16, 121, 18⟩) ⟨121, 4, 121, 18⟩)
    (.cons (.forr (.n 3 "_law_one" ⟨122, 8, 122, 16⟩) (.e (.ixv 0 "_law_ring" ⟨122, 20, 122, 29⟩ (.ki 1 0 ⟨122, 30, 122, 31⟩) ⟨122, 20, 122, 32⟩)) (.cons (.app 2 "_law_made" ⟨123, 8, 123, 17⟩ (.bin .Mod (.v 1 "_law_x" ⟨123, 25, 123, 31⟩) (.ixv 0 "_law_ring" ⟨123, 34, 123, 43⟩ (.ki 0 0 ⟨123, 44, 123, 45⟩) ⟨123, 34, 123, 46⟩) ⟨123, 25, 123, 46⟩) ⟨123, 8, 123, 24⟩ ⟨123, 8, 123, 47⟩ ⟨123, 8, 123, 47⟩)
    (.cons (.asg 1 "_law_x" ⟨124, 8, 124, 14⟩ (.bin .FloorDiv (.v 1 "_law_x" ⟨124, 17, 124, 23⟩) (.ixv 0 "_law_ring" ⟨124, 27, 124, 36⟩ (.ki 0 0 ⟨124, 37, 124, 38⟩) ⟨124, 27, 124, 39⟩) ⟨124, 17, 124, 39⟩) ⟨124, 8, 124, 39⟩)
    .nil)) ⟨122, 4, 124, 39⟩)
    (.cons (.ret (.v 2 "_law_made" ⟨125, 11, 125, 20⟩) ⟨125, 4, 125, 20⟩)
    .nil))), defScope (topS 34)⟩
def fd_law_code : Fd := ⟨"_law_code", false, [("_law_ring", ⟨126, 14, 126, 23⟩), ("_law_made", ⟨126, 25, 126, 34⟩)], ["_law_ring", "_law_made", "_law_x", "_law_one"],
   (.cons (.asg 2 "_law_x" ⟨127, 4, 127, 10⟩ (.ki 0 0 ⟨127, 13, 127, 14⟩) ⟨127, 4, 127, 14⟩)
    (.cons (.forr (.n 3 "_law_one" ⟨128, 8, 128, 16⟩) (.e (.rev (.v 1 "_law_made" ⟨128, 20, 128, 29⟩) 0 ⟨128, 33, 128, 34⟩ ⟨128, 32, 128, 34⟩ ⟨128, 30, 128, 34⟩ ⟨128, 20, 128, 35⟩)) (.cons (.asg 2 "_law_x" ⟨129, 8, 129, 14⟩ (.bin .Add (.bin .Mult (.v 2 "_law_x" ⟨129, 17, 129, 23⟩) (.ixv 0 "_law_ring" ⟨129, 26, 129, 35⟩ (.ki 0 0 ⟨129, 36, 129, 37⟩) ⟨129, 26, 129, 38⟩) ⟨129, 17, 129, 38⟩) (.bin .Mod (.v 3 "_law_one" ⟨129, 41, 129, 49⟩) (.ixv 0 "_law_ring" ⟨129, 52, 129, 61⟩ (.ki 0 0 ⟨129, 62, 129, 63⟩) ⟨129, 52, 129, 64⟩) ⟨129, 41, 129, 64⟩) ⟨129, 17, 129, 64⟩) ⟨129, 8, 129, 64⟩)
    .nil) ⟨128, 4, 129, 64⟩)
    (.cons (.ret (.v 2 "_law_x" ⟨130, 11, 130, 17⟩) ⟨130, 4, 130, 17⟩)
    .nil))), defScope (topS 35)⟩
def fd_law_sum_here : Fd := ⟨"_law_sum_here", false, [("_law_ring", ⟨131, 18, 131, 27⟩), ("_law_x", ⟨131, 29, 131, 35⟩), ("_law_y", ⟨131, 37, 131, 43⟩)], ["_law_ring", "_law_x", "_law_y", "_law_one", "_law_other"],
   (.cons (.ret (.call 26 "_law_code" ⟨132, 11, 132, 20⟩ (.v 0 "_law_ring" ⟨132, 21, 132, 30⟩) (.cons (.lc (.bin .Add (.v 3 "_law_one" ⟨132, 33, 132, 41⟩) (.v 4 "_law_other" ⟨132, 44, 132, 54⟩) ⟨132, 33, 132, 54⟩) (.t2 3 "_law_one" ⟨132, 59, 132, 67⟩ 4 "_law_other" ⟨132, 69, 132, 79⟩ 0 ⟨132, 59, 132, 79⟩) (.zp ⟨132, 83, 132, 86⟩ (.call 25 "_law_coefs" ⟨132, 87, 132, 97⟩ (.v 0 "_law_ring" ⟨132, 98, 132, 107⟩) (.cons (.v 1 "_law_x" ⟨132, 109, 132, 115⟩) .nil) ⟨132, 87, 132, 116⟩) (.call 25 "_law_coefs" ⟨132, 118, 132, 128⟩ (.v 0 "_law_ring" ⟨132, 129, 132, 138⟩) (.cons (.v 2 "_law_y" ⟨132, 140, 132, 146⟩) .nil) ⟨132, 118, 132, 147⟩) ⟨132, 83, 132, 148⟩) .no { kind := PySem.ScopeKind.function, names := [(PySem.Str.ofString ".0", PySem.NameKind.local), (PySem.Str.ofString "_law_one", PySem.NameKind.local), (PySem.Str.ofString "_law_other", PySem.NameKind.local)], isGenerator := false, isCoroutine := false, more := [] } [("_law_one", 3), ("_law_other", 4)] ⟨132, 32, 132, 149⟩) .nil) ⟨132, 11, 132, 150⟩) ⟨132, 4, 132, 150⟩)
    .nil), defScope (topS 36)⟩
def fd_law_product_here : Fd := ⟨"_law_product_here", false, [("_law_ring", ⟨133, 22, 133, 31⟩), ("_law_x", ⟨133, 33, 133, 39⟩), ("_law_y", ⟨133, 41, 133, 47⟩)], ["_law_ring", "_law_x", "_law_y", "_law_total", "_law_here", "_law_factor", "_law_top", "_law_one", "_law_other", "_law_low"],
   (.cons (.asgLc 3 "_law_total" ⟨134, 4, 134, 14⟩ (.ki 0 0 ⟨134, 18, 134, 19⟩) (.n 7 "_law_one" ⟨134, 24, 134, 32⟩) (.e (.ixv 0 "_law_ring" ⟨134, 36, 134, 45⟩ (.ki 1 0 ⟨134, 46, 134, 47⟩) ⟨134, 36, 134, 48⟩)) .no { kind := PySem.ScopeKind.function, names := [(PySem.Str.ofString ".0", PySem.NameKind.local), (PySem.Str.ofString "_law_one", PySem.NameKind.local)], isGenerator := false, isCoroutine := false, more := [] } [("_law_one", 7)] ⟨134, 17, 134, 49⟩ ⟨134, 4, 134, 49⟩)
    (.cons (.asg 4 "_law_here" ⟨135, 4, 135, 13⟩ (.call 25 "_law_coefs" ⟨135, 16, 135, 26⟩ (.v 0 "_law_ring" ⟨135, 27, 135, 36⟩) (.cons (.v 1 "_law_x" ⟨135, 38, 135, 44⟩) .nil) ⟨135, 16, 135, 45⟩) ⟨135, 4, 135, 45⟩)
    (.cons (.forr (.n 5 "_law_factor" ⟨136, 8, 136, 19⟩) (.e (.call 25 "_law_coefs" ⟨136, 23, 136, 33⟩ (.v 0 "_law_ring" ⟨136, 34, 136, 43⟩) (.cons (.v 2 "_law_y" ⟨136, 45, 136, 51⟩) .nil) ⟨136, 23, 136, 52⟩)) (.cons (.asgLc 3 "_law_total" ⟨137, 8, 137, 18⟩ (.bin .Mod (.bin .Add (.v 7 "_law_one" ⟨137, 23, 137, 31⟩) (.bin .Mult (.v 5 "_law_factor" ⟨137, 34, 137, 45⟩) (.v 8 "_law_other" ⟨137, 48, 137, 58⟩) ⟨137, 34, 137, 58⟩) ⟨137, 23, 137, 58⟩) (.ixv 0 "_law_ring" ⟨137, 62, 137, 71⟩ (.ki 0 0 ⟨137, 72, 137, 73⟩) ⟨137, 62, 137, 74⟩) ⟨137, 22, 137, 74⟩) (.t2 7 "_law_one" ⟨137, 79, 137, 87⟩ 8 "_law_other" ⟨137, 89, 137, 99⟩ 0 ⟨137, 79, 137, 99⟩) (.zp ⟨137, 103, 137, 106⟩ (.v 3 "_law_total" ⟨137, 107, 137, 117⟩) (.v 4 "_law_here" ⟨137, 119, 137, 128⟩) ⟨137, 103, 137, 129⟩) .no { kind := PySem.ScopeKind.function, names := [(PySem.Str.ofString ".0", PySem.NameKind.local), (PySem.Str.ofString "_law_one", PySem.NameKind.local), (PySem.Str.ofString "_law_other", PySem.NameKind.local), (PySem.Str.ofString "_law_factor", PySem.NameKind.free), (PySem.Str.ofString "_law_ring", PySem.NameKind.free)], isGenerator := false, isCoroutine := false, more := [] } [("_law_one", 7), ("_law_other", 8)] ⟨137, 21, 137, 130⟩ ⟨137, 8, 137, 130⟩)
    (.cons (.asg 6 "_law_top" ⟨138, 8, 138, 16⟩ (.ixv 4 "_law_here" ⟨138, 19, 138, 28⟩ (.neg (.ki 1 0 ⟨138, 30, 138, 31⟩) ⟨138, 29, 138, 31⟩) ⟨138, 19, 138, 32⟩) ⟨138, 8, 138, 32⟩)
    (.cons (.asgLc 4 "_law_here" ⟨139, 8, 139, 17⟩ (.bin .Mod (.bin .Sub (.v 7 "_law_one" ⟨139, 22, 139, 30⟩) (.bin .Mult (.v 6 "_law_top" ⟨139, 33, 139, 41⟩) (.v 9 "_law_low" ⟨139, 44, 139, 52⟩) ⟨139, 33, 139, 52⟩) ⟨139, 22, 139, 52⟩) (.ixv 0 "_law_ring" ⟨139, 56, 139, 65⟩ (.ki 0 0 ⟨139, 66, 139, 67⟩) ⟨139, 56, 139, 68⟩) ⟨139, 21, 139, 68⟩) (.t2 7 "_law_one" ⟨139, 73, 139, 81⟩ 9 "_law_low" ⟨139, 83, 139, 91⟩ 0 ⟨139, 73, 139, 91⟩) (.zp ⟨139, 95, 139, 98⟩ (.bin .Add (.lst (.cons (.ki 0 0 ⟨139, 100, 139, 101⟩) .nil) ⟨139, 99, 139, 102⟩) (.sl (.v 4 "_law_here" ⟨139, 105, 139, 114⟩) .no (.neg (.ki 1 0 ⟨139, 117, 139, 118⟩) ⟨139, 116, 139, 118⟩) ⟨139, 115, 139, 118⟩ ⟨139, 105, 139, 119⟩) ⟨139, 99, 139, 119⟩) (.ixv 0 "_law_ring" ⟨139, 121, 139, 130⟩ (.ki 1 0 ⟨139, 131, 139, 132⟩) ⟨139, 121, 139, 133⟩) ⟨139, 95, 139, 134⟩) .no { kind := PySem.ScopeKind.function, names := [(PySem.Str.ofString ".0", PySem.NameKind.local), (PySem.Str.ofString "_law_one", PySem.NameKind.local), (PySem.Str.ofString "_law_low", PySem.NameKind.local), (PySem.Str.ofString "_law_ring", PySem.NameKind.free), (PySem.Str.ofString "_law_top", PySem.NameKind.free)], isGenerator := false, isCoroutine := false, more := [] } [("_law_one", 7), ("_law_low", 9)] ⟨139, 20, 139, 135⟩ ⟨139, 8, 139, 135⟩)
    .nil))) ⟨136, 4, 139, 135⟩)
    (.cons (.ret (.call 26 "_law_code" ⟨140, 11, 140, 20⟩ (.v 0 "_law_ring" ⟨140, 21, 140, 30⟩) (.cons (.v 3 "_law_total" ⟨140, 32, 140, 42⟩) .nil) ⟨140, 11, 140, 43⟩) ⟨140, 4, 140, 43⟩)
    .nil)))), defScope (topS 37)⟩
def fd_law : Fd := ⟨"law", false, [("_law_script", ⟨141, 8, 141, 19⟩)], ["_law_script", "_law_town", "_law_own", "_law_q", "_law_x", "_law_y", "_law_z", "_law_count", "_law_due", "_law_again", "_law_odds", "_law_odd"],
   (.cons (.asg 1 "_law_town" ⟨142, 4, 142, 13⟩ (.lst .nil ⟨142, 16, 142, 18⟩) ⟨142, 4, 142, 18⟩)
    (.cons (.asg 2 "_law_own" ⟨143, 4, 143, 12⟩ (.callI 23 "_law_some_ring" ⟨143, 15, 143, 29⟩ (.v 0 "_law_script" ⟨143, 30, 143, 41⟩) 1 "_law_town" ⟨143, 43, 143, 52⟩ .nil ⟨143, 15, 143, 53⟩) ⟨143, 4, 143, 53⟩)
    (.cons (.asg 3 "_law_q" ⟨144, 4, 144, 10⟩ (.call 24 "_law_size_here" ⟨144, 13, 144, 27⟩ (.v 2 "_law_own" ⟨144, 28, 144, 36⟩) .nil ⟨144, 13, 144, 37⟩) ⟨144, 4, 144, 37⟩)
    (.cons (.iff (.bop .Or (.cmp .IsNot (.call 2 "is_ring" ⟨145, 7, 145, 14⟩ (.v 2 "_law_own" ⟨145, 15, 145, 23⟩) .nil ⟨145, 7, 145, 24⟩) (.kb true 0 ⟨145, 32, 145, 36⟩) ⟨145, 7, 145, 36⟩) (.cons (.not (.call 21 "_law_same_number" ⟨145, 44, 145, 60⟩ (.call 5 "size" ⟨145, 61, 145, 65⟩ (.v 2 "_law_own" ⟨145, 66, 145, 74⟩) .nil ⟨145, 61, 145, 75⟩) (.cons (.v 3 "_law_q" ⟨145, 77, 145, 83⟩) .nil) ⟨145, 44, 145, 84⟩) ⟨145, 40, 145, 84⟩) .nil) ⟨145, 7, 145, 84⟩) (.cons (.ret (.kb false 0 ⟨146, 15, 146, 20⟩) ⟨146, 8, 146, 20⟩)
    .nil) .nil ⟨145, 4, 146, 20⟩)
    (.cons (.par3 4 "_law_x" ⟨147, 4, 147, 10⟩ 5 "_law_y" ⟨147, 12, 147, 18⟩ 6 "_law_z" ⟨147, 20, 147, 26⟩ (.callI 20 "_law_draw" ⟨147, 30, 147, 39⟩ (.v 0 "_law_script" ⟨147, 40, 147, 51⟩) 1 "_law_town" ⟨147, 53, 147, 62⟩ (.cons (.v 3 "_law_q" ⟨147, 64, 147, 70⟩) .nil) ⟨147, 30, 147, 71⟩) (.callI 20 "_law_draw" ⟨147, 73, 147, 82⟩ (.v 0 "_law_script" ⟨147, 83, 147, 94⟩) 1 "_law_town" ⟨147, 96, 147, 105⟩ (.cons (.v 3 "_law_q" ⟨147, 107, 147, 113⟩) .nil) ⟨147, 73, 147, 114⟩) (.callI 20 "_law_draw" ⟨147, 116, 147, 125⟩ (.v 0 "_law_script" ⟨147, 126, 147, 137⟩) 1 "_law_town" ⟨147, 139, 147, 148⟩ (.cons (.v 3 "_law_q" ⟨147, 150, 147, 156⟩) .nil) ⟨147, 116, 147, 157⟩) 0 ⟨147, 4, 147, 26⟩ 0 ⟨147, 29, 147, 158⟩ ⟨147, 4, 147, 158⟩)
    (.cons (.iff (.bop .Or (.cmp .NotEq (.call 14 "add" ⟨148, 7, 148, 10⟩ (.v 2 "_law_own" ⟨148, 11, 148, 19⟩) (.cons (.v 4 "_law_x" ⟨148, 21, 148, 27⟩) (.cons (.v 5 "_law_y" ⟨148, 29, 148, 35⟩) .nil)) ⟨148, 7, 148, 36⟩) (.call 27 "_law_sum_here" ⟨148, 40, 148, 53⟩ (.v 2 "_law_own" ⟨148, 54, 148, 62⟩) (.cons (.v 4 "_law_x" ⟨148, 64, 148, 70⟩) (.cons (.v 5 "_law_y" ⟨148, 72, 148, 78⟩) .nil)) ⟨148, 40, 148, 79⟩) ⟨148, 7, 148, 79⟩) (.cons (.cmp .NotEq (.call 15 "multiply" ⟨148, 83, 148, 91⟩ (.v 2 "_law_own" ⟨148, 92, 148, 100⟩) (.cons (.v 4 "_law_x" ⟨148, 102, 148, 108⟩) (.cons (.v 5 "_law_y" ⟨148, 110, 148, 116⟩) .nil)) ⟨148, 83, 148, 117⟩) (.call 28 "_law_product_here" ⟨148, 121, 148, 138⟩ (.v 2 "_law_own" ⟨148, 139, 148, 147⟩) (.cons (.v 4 "_law_x" ⟨148, 149, 148, 155⟩) (.cons (.v 5 "_law_y" ⟨148, 157, 148, 163⟩) .nil)) ⟨148, 121, 148, 164⟩) ⟨148, 83, 148, 164⟩) .nil) ⟨148, 7, 148, 164⟩) (.cons (.ret (.kb false 0 ⟨149, 15, 149, 20⟩) ⟨149, 8, 149, 20⟩)
    .nil) .nil ⟨148, 4, 149, 20⟩)
    (.cons (.iff (.bop .Or (.cmp .NotEq (.call 14 "add" ⟨150, 7, 150, 10⟩ (.v 2 "_law_own" ⟨150, 11, 150, 19⟩) (.cons (.v 4 "_law_x" ⟨150, 21, 150, 27⟩) (.cons (.call 16 "negative" ⟨150, 29, 150, 37⟩ (.v 2 "_law_own" ⟨150, 38, 150, 46⟩) (.cons (.v 4 "_law_x" ⟨150, 48, 150, 54⟩) .nil) ⟨150, 29, 150, 55⟩) .nil)) ⟨150, 7, 150, 56⟩) (.ki 0 0 ⟨150, 60, 150, 61⟩) ⟨150, 7, 150, 61⟩) (.cons (.cmp .NotEq (.call 15 "multiply" ⟨150, 65, 150, 73⟩ (.v 2 "_law_own" ⟨150, 74, 150, 82⟩) (.cons (.v 4 "_law_x" ⟨150, 84, 150, 90⟩) (.cons (.v 5 "_law_y" ⟨150, 92, 150, 98⟩) .nil)) ⟨150, 65, 150, 99⟩) (.call 15 "multiply" ⟨150, 103, 150, 111⟩ (.v 2 "_law_own" ⟨150, 112, 150, 120⟩) (.cons (.v 5 "_law_y" ⟨150, 122, 150, 128⟩) (.cons (.v 4 "_law_x" ⟨150, 130, 150, 136⟩) .nil)) ⟨150, 103, 150, 137⟩) ⟨150, 65, 150, 137⟩) (.cons (.cmp .NotEq (.call 15 "multiply" ⟨150, 141, 150, 149⟩ (.v 2 "_law_own" ⟨150, 150, 150, 158⟩) (.cons (.v 4 "_law_x" ⟨150, 160, 150, 166⟩) (.cons (.ki 1 0 ⟨150, 168, 150, 169⟩) .nil)) ⟨150, 141, 150, 170⟩) (.v 4 "_law_x" ⟨150, 174, 150, 180⟩) ⟨150, 141, 150, 180⟩) .nil)) ⟨150, 7, 150, 180⟩) (.cons (.ret (.kb false 0 ⟨151, 15, 151, 20⟩) ⟨151, 8, 151, 20⟩)
    .nil) .nil ⟨150, 4, 151, 20⟩)
    (.cons (.iff (.cmp .NotEq (.call 15 "multiply" ⟨152, 7, 152, 15⟩ (.v 2 "_law_own" ⟨152, 16, 152, 24⟩) (.cons (.v 4 "_law_x" ⟨152, 26, 152, 32⟩) (.cons (.call 14 "add" ⟨152, 34, 152, 37⟩ (.v 2 "_law_own" ⟨152, 38, 152, 46⟩) (.cons (.v 5 "_law_y" ⟨152, 48, 152, 54⟩) (.cons (.v 6 "_law_z" ⟨152, 56, 152, 62⟩) .nil)) ⟨152, 34, 152, 63⟩) .nil)) ⟨152, 7, 152, 64⟩) (.call 14 "add" ⟨152, 68, 152, 71⟩ (.v 2 "_law_own" ⟨152, 72, 152, 80⟩) (.cons (.call 15 "multiply" ⟨152, 82, 152, 90⟩ (.v 2 "_law_own" ⟨152, 91, 152, 99⟩) (.cons (.v 4 "_law_x" ⟨152, 101, 152, 107⟩) (.cons (.v 5 "_law_y" ⟨152, 109, 152, 115⟩) .nil)) ⟨152, 82, 152, 116⟩) (.cons (.call 15 "multiply" ⟨152, 118, 152, 126⟩ (.v 2 "_law_own" ⟨152, 127, 152, 135⟩) (.cons (.v 4 "_law_x" ⟨152, 137, 152, 143⟩) (.cons (.v 6 "_law_z" ⟨152, 145, 152, 151⟩) .nil)) ⟨152, 118, 152, 152⟩) .nil)) ⟨152, 68, 152, 153⟩) ⟨152, 7, 152, 153⟩) (.cons (.ret (.kb false 0 ⟨153, 15, 153, 20⟩) ⟨153, 8, 153, 20⟩)
    .nil) .nil ⟨152, 4, 153, 20⟩)
    (.cons (.iff (.cmp .NotEq (.call 15 "multiply" ⟨154, 7, 154, 15⟩ (.v 2 "_law_own" ⟨154, 16, 154, 24⟩) (.cons (.call 15 "multiply" ⟨154, 26, 154, 34⟩ (.v 2 "_law_own" ⟨154, 35, 154, 43⟩) (.cons (.v 4 "_law_x" ⟨154, 45, 154, 51⟩) (.cons (.v 5 "_law_y" ⟨154, 53, 154, 59⟩) .nil)) ⟨154, 26, 154, 60⟩) (.cons (.v 6 "_law_z" ⟨154, 62, 154, 68⟩) .nil)) ⟨154, 7, 154, 69⟩) (.call 15 "multiply" ⟨154, 73, 154, 81⟩ (.v 2 "_law_own" ⟨154, 82, 154, 90⟩) (.cons (.v 4 "_law_x" ⟨154, 92, 154, 98⟩) (.cons (.call 15 "multiply" ⟨154, 100, 154, 108⟩ (.v 2 "_law_own" ⟨154, 109, 154, 117⟩) (.cons (.v 5 "_law_y" ⟨154, 119, 154, 125⟩) (.cons (.v 6 "_law_z" ⟨154, 127, 154, 133⟩) .nil)) ⟨154, 100, 154, 134⟩) .nil)) ⟨154, 73, 154, 135⟩) ⟨154, 7, 154, 135⟩) (.cons (.ret (.kb false 0 ⟨155, 15, 155, 20⟩) ⟨155, 8, 155, 20⟩)
    .nil) .nil ⟨154, 4, 155, 20⟩)
    (.cons (.asg 7 "_law_count" ⟨156, 4, 156, 14⟩ (.callI 20 "_law_draw" ⟨156, 17, 156, 26⟩ (.v 0 "_law_script" ⟨156, 27, 156, 38⟩) 1 "_law_town" ⟨156, 40, 156, 49⟩ (.cons (.ki 12 0 ⟨156, 51, 156, 53⟩) .nil) ⟨156, 17, 156, 54⟩) ⟨156, 4, 156, 54⟩)
    (.cons (.asg 8 "_law_due" ⟨157, 4, 157, 12⟩ (.ki 1 0 ⟨157, 15, 157, 16⟩) ⟨157, 4, 157, 16⟩)
    (.cons (.forr (.n 9 "_law_again" ⟨158, 8, 158, 18⟩) (.r1 ⟨158, 22, 158, 27⟩ (.v 7 "_law_count" ⟨158, 28, 158, 38⟩) ⟨158, 22, 158, 39⟩) (.cons (.asg 8 "_law_due" ⟨159, 8, 159, 16⟩ (.call 28 "_law_product_here" ⟨159, 19, 159, 36⟩ (.v 2 "_law_own" ⟨159, 37, 159, 45⟩) (.cons (.v 8 "_law_due" ⟨159, 47, 159, 55⟩) (.cons (.v 4 "_law_x" ⟨159, 57, 159, 63⟩) .nil)) ⟨159, 19, 159, 64⟩) ⟨159, 8, 159, 64⟩)
    .nil) ⟨158, 4, 159, 64⟩)
    (.cons (.iff (.bop .Or (.cmp .NotEq (.call 17 "power" ⟨160, 7, 160, 12⟩ (.v 2 "_law_own" ⟨160, 13, 160, 21⟩) (.cons (.v 4 "_law_x" ⟨160, 23, 160, 29⟩) (.cons (.v 7 "_law_count" ⟨160, 31, 160, 41⟩) .nil)) ⟨160, 7, 160, 42⟩) (.v 8 "_law_due" ⟨160, 46, 160, 54⟩) ⟨160, 7, 160, 54⟩) (.cons (.cmp .NotEq (.call 17 "power" ⟨160, 58, 160, 63⟩ (.v 2 "_law_own" ⟨160, 64, 160, 72⟩) (.cons (.v 4 "_law_x" ⟨160, 74, 160, 80⟩) (.cons (.ki 0 0 ⟨160, 82, 160, 83⟩) .nil)) ⟨160, 58, 160, 84⟩) (.ki 1 0 ⟨160, 88, 160, 89⟩) ⟨160, 58, 160, 89⟩) .nil) ⟨160, 7, 160, 89⟩) (.cons (.ret (.kb false 0 ⟨161, 15, 161, 20⟩) ⟨161, 8, 161, 20⟩)
    .nil) .nil ⟨160, 4, 161, 20⟩)
    (.cons (.iff (.cmp .NotEq (.call 17 "power" ⟨162, 7, 162, 12⟩ (.v 2 "_law_own" ⟨162, 13, 162, 21⟩) (.cons (.v 4 "_law_x" ⟨162, 23, 162, 29⟩) (.cons (.bin .Add (.v 7 "_law_count" ⟨162, 31, 162, 41⟩) (.ki 40 0 ⟨162, 44, 162, 46⟩) ⟨162, 31, 162, 46⟩) .nil)) ⟨162, 7, 162, 47⟩) (.call 15 "multiply" ⟨162, 51, 162, 59⟩ (.v 2 "_law_own" ⟨162, 60, 162, 68⟩) (.cons (.v 8 "_law_due" ⟨162, 70, 162, 78⟩) (.cons (.call 17 "power" ⟨162, 80, 162, 85⟩ (.v 2 "_law_own" ⟨162, 86, 162, 94⟩) (.cons (.v 4 "_law_x" ⟨162, 96, 162, 102⟩) (.cons (.ki 40 0 ⟨162, 104, 162, 106⟩) .nil)) ⟨162, 80, 162, 107⟩) .nil)) ⟨162, 51, 162, 108⟩) ⟨162, 7, 162, 108⟩) (.cons (.ret (.kb false 0 ⟨163, 15, 163, 20⟩) ⟨163, 8, 163, 20⟩)
    .nil) .nil ⟨162, 4, 163, 20⟩)
    (.cons (.asg 10 "_law_odds" ⟨164, 4, 164, 13⟩ (.lst (.cons (.kn 0 ⟨164, 17, 164, 21⟩) (.cons (.ki 5 0 ⟨164, 23, 164, 24⟩) (.cons (.tup .nil 0 ⟨164, 26, 164, 28⟩) (.cons (.tup (.cons (.ki 2 0 ⟨164, 31, 164, 32⟩) .nil) 0 ⟨164, 30, 164, 34⟩) (.cons (.tup (.cons (.ki 2 0 ⟨164, 37, 164, 38⟩) (.cons (.tup .nil 0 ⟨164, 40, 164, 42⟩) .nil)) 0 ⟨164, 36, 164, 43⟩) (.cons (.tup (.cons (.ki 4 0 ⟨164, 46, 164, 47⟩) (.cons (.tup (.cons (.ki 1 0 ⟨164, 50, 164, 51⟩) .nil) 0 ⟨164, 49, 164, 53⟩) .nil)) 0 ⟨164, 45, 164, 54⟩) (.cons (.tup (.cons (.ki 1 0 ⟨164, 57, 164, 58⟩) (.cons (.tup (.cons (.ki 0 0 ⟨164, 61, 164, 62⟩) .nil) 0 ⟨164, 60, 164, 64⟩) .nil)) 0 ⟨164, 56, 164, 65⟩) (.cons (.tup (.cons (.ki 2 0 ⟨164, 68, 164, 69⟩) (.cons (.lst (.cons (.ki 1 0 ⟨164, 72, 164, 73⟩) .nil) ⟨164, 71, 164, 74⟩) .nil)) 0 ⟨164, 67, 164, 75⟩) (.cons (.lst (.cons (.ki 2 0 ⟨164, 78, 164, 79⟩) (.cons (.tup (.cons (.ki 1 0 ⟨164, 82, 164, 83⟩) .nil) 0 ⟨164, 81, 164, 85⟩) .nil)) ⟨164, 77, 164, 86⟩) (.cons (.tup (.cons (.ki 2 0 ⟨164, 89, 164, 90⟩) (.cons (.tup (.cons (.ki 2 0 ⟨164, 93, 164, 94⟩) .nil) 0 ⟨164, 92, 164, 96⟩) .nil)) 0 ⟨164, 88, 164, 97⟩) (.cons (.tup (.cons (.ki 2 0 ⟨164, 100, 164, 101⟩) (.cons (.tup (.cons (.kb true 0 ⟨164, 104, 164, 108⟩) .nil) 0 ⟨164, 103, 164, 110⟩) .nil)) 0 ⟨164, 99, 164, 111⟩) .nil))))))))))) ⟨164, 16, 164, 112⟩) ⟨164, 4, 164, 112⟩)
    (.cons (.ext 10 "_law_odds" ⟨165, 4, 165, 13⟩ (.lst (.cons (.tup (.cons (.ki 2 0 ⟨165, 23, 165, 24⟩) (.cons (.tup (.cons (.ks "1" 0 ⟨165, 27, 165, 30⟩) .nil) 0 ⟨165, 26, 165, 32⟩) .nil)) 0 ⟨165, 22, 165, 33⟩) (.cons (.tup (.cons (.kb true 0 ⟨165, 36, 165, 40⟩) (.cons (.tup (.cons (.ki 0 0 ⟨165, 43, 165, 44⟩) .nil) 0 ⟨165, 42, 165, 46⟩) .nil)) 0 ⟨165, 35, 165, 47⟩) (.cons (.tup (.cons (.ki 2 0 ⟨165, 50, 165, 51⟩) (.cons (.bin .Mult (.tup (.cons (.ki 1 0 ⟨165, 54, 165, 55⟩) .nil) 0 ⟨165, 53, 165, 57⟩) (.ki 6 0 ⟨165, 60, 165, 61⟩) ⟨165, 53, 165, 61⟩) .nil)) 0 ⟨165, 49, 165, 62⟩) (.cons (.tup (.cons (.ki 3 0 ⟨165, 65, 165, 66⟩) (.cons (.bin .Mult (.tup (.cons (.ki 1 0 ⟨165, 69, 165, 70⟩) .nil) 0 ⟨165, 68, 165, 72⟩) (.ki 4 0 ⟨165, 75, 165, 76⟩) ⟨165, 68, 165, 76⟩) .nil)) 0 ⟨165, 64, 165, 77⟩) (.cons (.tup (.cons (.ki 7 0 ⟨165, 80, 165, 81⟩) (.cons (.tup (.cons (.ki 1 0 ⟨165, 84, 165, 85⟩) (.cons (.ki 1 0 ⟨165, 87, 165, 88⟩) .nil)) 0 ⟨165, 83, 165, 89⟩) .nil)) 0 ⟨165, 79, 165, 90⟩) (.cons (.tup (.cons (.ki 37 0 ⟨165, 93, 165, 95⟩) (.cons (.tup (.cons (.ki 1 0 ⟨165, 98, 165, 99⟩) .nil) 0 ⟨165, 97, 165, 101⟩) .nil)) 0 ⟨165, 92, 165, 102⟩) (.cons (.tup (.cons (.bin .Sub (.ki 0 0 ⟨165, 105, 165, 106⟩) (.ki 2 0 ⟨165, 109, 165, 110⟩) ⟨165, 105, 165, 110⟩) (.cons (.tup (.cons (.ki 0 0 ⟨165, 113, 165, 114⟩) .nil) 0 ⟨165, 112, 165, 116⟩) .nil)) 0 ⟨165, 104, 165, 117⟩) .nil))))))) ⟨165, 21, 165, 118⟩) ⟨165, 4, 165, 20⟩ ⟨165, 4, 165, 119⟩ ⟨165, 4, 165, 119⟩)
    (.cons (.ext 10 "_law_odds" ⟨166, 4, 166, 13⟩ (.lst (.cons (.tup (.cons (.ki 2 0 ⟨166, 23, 166, 24⟩) (.cons (.tup (.cons (.ki 1 0 ⟨166, 27, 166, 28⟩) (.cons (.kn 0 ⟨166, 30, 166, 34⟩) .nil)) 0 ⟨166, 26, 166, 35⟩) .nil)) 0 ⟨166, 22, 166, 36⟩) (.cons (.tup (.cons (.ki 9 0 ⟨166, 39, 166, 40⟩) (.cons (.tup (.cons (.ki 1 0 ⟨166, 43, 166, 44⟩) .nil) 0 ⟨166, 42, 166, 46⟩) .nil)) 0 ⟨166, 38, 166, 47⟩) (.cons (.tup (.cons (.ki 2 0 ⟨166, 50, 166, 51⟩) (.cons (.tup (.cons (.bin .Sub (.ki 0 0 ⟨166, 54, 166, 55⟩) (.ki 1 0 ⟨166, 58, 166, 59⟩) ⟨166, 54, 166, 59⟩) .nil) 0 ⟨166, 53, 166, 61⟩) .nil)) 0 ⟨166, 49, 166, 62⟩) .nil))) ⟨166, 21, 166, 63⟩) ⟨166, 4, 166, 20⟩ ⟨166, 4, 166, 64⟩ ⟨166, 4, 166, 64⟩)
    (.cons (.iff (.bop .Or (.cmp .IsNot (.call 2 "is_ring" ⟨167, 7, 167, 14⟩ (.tup (.cons (.ki 2 0 ⟨167, 16, 167, 17⟩) (.cons (.bin .Mult (.tup (.cons (.ki 1 0 ⟨167, 20, 167, 21⟩) .nil) 0 ⟨167, 19, 167, 23⟩) (.ki 5 0 ⟨167, 26, 167, 27⟩) ⟨167, 19, 167, 27⟩) .nil)) 0 ⟨167, 15, 167, 28⟩) .nil ⟨167, 7, 167, 29⟩) (.kb true 0 ⟨167, 37, 167, 41⟩) ⟨167, 7, 167, 41⟩) (.cons (.cmp .IsNot (.call 2 "is_ring" ⟨167, 45, 167, 52⟩ (.tup (.cons (.ki 3 0 ⟨167, 54, 167, 55⟩) (.cons (.bin .Mult (.tup (.cons (.ki 2 0 ⟨167, 58, 167, 59⟩) .nil) 0 ⟨167, 57, 167, 61⟩) (.ki 3 0 ⟨167, 64, 167, 65⟩) ⟨167, 57, 167, 65⟩) .nil)) 0 ⟨167, 53, 167, 66⟩) .nil ⟨167, 45, 167, 67⟩) (.kb true 0 ⟨167, 75, 167, 79⟩) ⟨167, 45, 167, 79⟩) (.cons (.cmp .NotEq (.call 5 "size" ⟨167, 83, 167, 87⟩ (.tup (.cons (.ki 2 0 ⟨167, 89, 167, 90⟩) (.cons (.bin .Mult (.tup (.cons (.ki 0 0 ⟨167, 93, 167, 94⟩) .nil) 0 ⟨167, 92, 167, 96⟩) (.ki 5 0 ⟨167, 99, 167, 100⟩) ⟨167, 92, 167, 100⟩) .nil)) 0 ⟨167, 88, 167, 101⟩) .nil ⟨167, 83, 167, 102⟩) (.ki 32 0 ⟨167, 106, 167, 108⟩) ⟨167, 83, 167, 108⟩) .nil)) ⟨167, 7, 167, 108⟩) (.cons (.ret (.kb false 0 ⟨168, 15, 168, 20⟩) ⟨168, 8, 168, 20⟩)
    .nil) .nil ⟨167, 4, 168, 20⟩)
    (.cons (.ret (.bop .And (.cmp .Eq (.lc (.call 2 "is_ring" ⟨169, 12, 169, 19⟩ (.v 11 "_law_odd" ⟨169, 20, 169, 28⟩) .nil ⟨169, 12, 169, 29⟩) (.n 11 "_law_odd" ⟨169, 34, 169, 42⟩) (.e (.v 10 "_law_odds" ⟨169, 46, 169, 55⟩)) .no { kind := PySem.ScopeKind.function, names := [(PySem.Str.ofString ".0", PySem.NameKind.local), (PySem.Str.ofString "_law_odd", PySem.NameKind.local), (PySem.Str.ofString "is_ring", PySem.NameKind.globalImplicit)], isGenerator := false, isCoroutine := false, more := [] } [("_law_odd", 11)] ⟨169, 11, 169, 56⟩) (.bin .Mult (.lst (.cons (.kb false 0 ⟨169, 61, 169, 66⟩) .nil) ⟨169, 60, 169, 67⟩) (.lenV 10 "_law_odds" ⟨169, 74, 169, 83⟩ ⟨169, 70, 169, 73⟩ ⟨169, 70, 169, 84⟩) ⟨169, 60, 169, 84⟩) ⟨169, 11, 169, 84⟩) (.cons (.cmp .Is (.call 2 "is_ring" ⟨169, 89, 169, 96⟩ (.tup (.cons (.ki 31 0 ⟨169, 98, 169, 100⟩) (.cons (.tup (.cons (.ki 30 0 ⟨169, 103, 169, 105⟩) .nil) 0 ⟨169, 102, 169, 107⟩) .nil)) 0 ⟨169, 97, 169, 108⟩) .nil ⟨169, 89, 169, 109⟩) (.kb true 0 ⟨169, 113, 169, 117⟩) ⟨169, 89, 169, 117⟩) .nil) ⟨169, 11, 169, 117⟩) ⟨169, 4, 169, 117⟩)
    .nil))))))))))))))))))), defScope (topS 38)⟩
def fds : List Fd := [fd_is_integer, fd_times_itself, fd_is_ring, fd_check_ring, fd_size_of, fd_size, fd_check_element, fd_check_two, fd_digits_of, fd_element_of, fd_plus, fd_times, fd_minus, fd_raised, fd_add, fd_multiply, fd_negative, fd_power, fd_law_cell_at, fd_law_mixed, fd_law_draw, fd_law_same_number, fd_law_pick, fd_law_some_ring, fd_law_size_here, fd_law_coefs, fd_law_code, fd_law_sum_here, fd_law_product_here]
def gl : List (Str × D) := [("MOST", .int 32), ("PRIMES", .tup [.int 2, .int 3, .int 5, .int 7, .int 11, .int 13, .int 17, .int 19, .int 23, .int 29, .int 31])]
def ex : List Str := ["InvalidRing", "", "", "InvalidElement", "InvalidNumber", "", "", "", "", "", "", ""]
theorem bd_is_integer : BdOk (Fd.ps fd_is_integer) := fun _ _ _ _ _ _ _ _ _ _ us hl => match us, hl with | [_, _, _], _ => rfl
theorem bd_times_itself : BdOk (Fd.ps fd_times_itself) := fun _ _ _ _ _ _ _ _ _ _ us hl => match us, hl with | [_, _], _ => rfl
theorem bd_is_ring : BdOk (Fd.ps fd_is_ring) := fun _ _ _ _ _ _ _ _ _ _ us hl => match us, hl with | [_], _ => rfl
theorem bd_check_ring : BdOk (Fd.ps fd_check_ring) := fun _ _ _ _ _ _ _ _ _ _ us hl => match us, hl with | [_], _ => rfl
theorem bd_size_of : BdOk (Fd.ps fd_size_of) := fun _ _ _ _ _ _ _ _ _ _ us hl => match us, hl with | [_], _ => rfl
theorem bd_size : BdOk (Fd.ps fd_size) := fun _ _ _ _ _ _ _ _ _ _ us hl => match us, hl with | [_], _ => rfl
theorem bd_check_element : BdOk (Fd.ps fd_check_element) := fun _ _ _ _ _ _ _ _ _ _ us hl => match us, hl with | [_, _], _ => rfl
theorem bd_check_two : BdOk (Fd.ps fd_check_two) := fun _ _ _ _ _ _ _ _ _ _ us hl => match us, hl with | [_, _, _], _ => rfl
theorem bd_digits_of : BdOk (Fd.ps fd_digits_of) := fun _ _ _ _ _ _ _ _ _ _ us hl => match us, hl with | [_, _], _ => rfl
theorem bd_element_of : BdOk (Fd.ps fd_element_of) := fun _ _ _ _ _ _ _ _ _ _ us hl => match us, hl with | [_, _], _ => rfl
theorem bd_plus : BdOk (Fd.ps fd_plus) := fun _ _ _ _ _ _ _ _ _ _ us hl => match us, hl with | [_, _, _], _ => rfl
theorem bd_times : BdOk (Fd.ps fd_times) := fun _ _ _ _ _ _ _ _ _ _ us hl => match us, hl with | [_, _, _], _ => rfl
theorem bd_minus : BdOk (Fd.ps fd_minus) := fun _ _ _ _ _ _ _ _ _ _ us hl => match us, hl with | [_, _], _ => rfl
theorem bd_raised : BdOk (Fd.ps fd_raised) := fun _ _ _ _ _ _ _ _ _ _ us hl => match us, hl with | [_, _, _], _ => rfl
theorem bd_add : BdOk (Fd.ps fd_add) := fun _ _ _ _ _ _ _ _ _ _ us hl => match us, hl with | [_, _, _], _ => rfl
theorem bd_multiply : BdOk (Fd.ps fd_multiply) := fun _ _ _ _ _ _ _ _ _ _ us hl => match us, hl with | [_, _, _], _ => rfl
theorem bd_negative : BdOk (Fd.ps fd_negative) := fun _ _ _ _ _ _ _ _ _ _ us hl => match us, hl with | [_, _], _ => rfl
theorem bd_power : BdOk (Fd.ps fd_power) := fun _ _ _ _ _ _ _ _ _ _ us hl => match us, hl with | [_, _, _], _ => rfl
theorem bd_law_cell_at : BdOk (Fd.ps fd_law_cell_at) := fun _ _ _ _ _ _ _ _ _ _ us hl => match us, hl with | [_, _], _ => rfl
theorem bd_law_mixed : BdOk (Fd.ps fd_law_mixed) := fun _ _ _ _ _ _ _ _ _ _ us hl => match us, hl with | [_, _, _], _ => rfl
theorem bd_law_draw : BdOk (Fd.ps fd_law_draw) := fun _ _ _ _ _ _ _ _ _ _ us hl => match us, hl with | [_, _, _], _ => rfl
theorem bd_law_same_number : BdOk (Fd.ps fd_law_same_number) := fun _ _ _ _ _ _ _ _ _ _ us hl => match us, hl with | [_, _], _ => rfl
theorem bd_law_pick : BdOk (Fd.ps fd_law_pick) := fun _ _ _ _ _ _ _ _ _ _ us hl => match us, hl with | [_, _, _], _ => rfl
theorem bd_law_some_ring : BdOk (Fd.ps fd_law_some_ring) := fun _ _ _ _ _ _ _ _ _ _ us hl => match us, hl with | [_, _], _ => rfl
theorem bd_law_size_here : BdOk (Fd.ps fd_law_size_here) := fun _ _ _ _ _ _ _ _ _ _ us hl => match us, hl with | [_], _ => rfl
theorem bd_law_coefs : BdOk (Fd.ps fd_law_coefs) := fun _ _ _ _ _ _ _ _ _ _ us hl => match us, hl with | [_, _], _ => rfl
theorem bd_law_code : BdOk (Fd.ps fd_law_code) := fun _ _ _ _ _ _ _ _ _ _ us hl => match us, hl with | [_, _], _ => rfl
theorem bd_law_sum_here : BdOk (Fd.ps fd_law_sum_here) := fun _ _ _ _ _ _ _ _ _ _ us hl => match us, hl with | [_, _, _], _ => rfl
theorem bd_law_product_here : BdOk (Fd.ps fd_law_product_here) := fun _ _ _ _ _ _ _ _ _ _ us hl => match us, hl with | [_, _, _], _ => rfl
theorem bd_law : BdOk (Fd.ps fd_law) := fun _ _ _ _ _ _ _ _ _ _ us hl => match us, hl with | [_], _ => rfl
theorem bds : ∀ d ∈ fd_law :: fds, BdOk d.ps := by
  intro d hd
  simp only [fds, List.mem_cons, List.not_mem_nil, or_false] at hd
  rcases hd with rfl | rfl | rfl | rfl | rfl | rfl | rfl | rfl | rfl | rfl | rfl | rfl | rfl | rfl | rfl | rfl | rfl | rfl | rfl | rfl | rfl | rfl | rfl | rfl | rfl | rfl | rfl | rfl | rfl | rfl
  · exact bd_law
  · exact bd_is_integer
  · exact bd_times_itself
  · exact bd_is_ring
  · exact bd_check_ring
  · exact bd_size_of
  · exact bd_size
  · exact bd_check_element
  · exact bd_check_two
  · exact bd_digits_of
  · exact bd_element_of
  · exact bd_plus
  · exact bd_times
  · exact bd_minus
  · exact bd_raised
  · exact bd_add
  · exact bd_multiply
  · exact bd_negative
  · exact bd_power
  · exact bd_law_cell_at
  · exact bd_law_mixed
  · exact bd_law_draw
  · exact bd_law_same_number
  · exact bd_law_pick
  · exact bd_law_some_ring
  · exact bd_law_size_here
  · exact bd_law_coefs
  · exact bd_law_code
  · exact bd_law_sum_here
  · exact bd_law_product_here
theorem okAll : allB gl ex fds [] = true := by kernel_rfl
theorem okLaw : fdB ⟨mkFns gl ex fds [], gl, ex⟩ fd_law = true := by kernel_rfl
def nam0 : List Str := ["__name__", "FieldError", "InvalidRing", "InvalidElement", "InvalidNumber", "MOST", "PRIMES", "is_integer", "times_itself", "is_ring", "check_ring", "size_of", "size", "check_element", "check_two", "digits_of", "element_of", "plus", "times", "minus"]
def nam1 : List Str := ["raised", "add", "multiply", "negative", "power", "_law_cell_at", "_law_mixed", "_law_draw", "_law_same_number", "_law_pick", "_law_some_ring", "_law_size_here", "_law_coefs", "_law_code", "_law_sum_here", "_law_product_here"]
def names : List Str := nam0 ++ nam1
def sem (ns : List Int) : RF := lawSem gl ex fds fd_law [.scr ns]
def fl : List Fn := [⟨"is_integer", false, 3, cb_is_integer⟩,
  ⟨"times_itself", false, 2, cb_times_itself⟩,
  ⟨"is_ring", false, 1, cb_is_ring⟩,
  ⟨"check_ring", false, 1, cb_check_ring⟩,
  ⟨"size_of", false, 1, cb_size_of⟩,
  ⟨"size", false, 1, cb_size⟩,
  ⟨"check_element", false, 2, cb_check_element⟩,
  ⟨"check_two", false, 3, cb_check_two⟩,
  ⟨"digits_of", false, 2, cb_digits_of⟩,
  ⟨"element_of", false, 2, cb_element_of⟩,
  ⟨"plus", false, 3, cb_plus⟩,
  ⟨"times", false, 3, cb_times⟩,
  ⟨"minus", false, 2, cb_minus⟩,
  ⟨"raised", false, 3, cb_raised⟩,
  ⟨"add", false, 3, cb_add⟩,
  ⟨"multiply", false, 3, cb_multiply⟩,
  ⟨"negative", false, 2, cb_negative⟩,
  ⟨"power", false, 3, cb_power⟩,
  ⟨"_law_cell_at", false, 2, cb_law_cell_at⟩,
  ⟨"_law_mixed", false, 3, cb_law_mixed⟩,
  ⟨"_law_draw", true, 3, cb_law_draw⟩,
  ⟨"_law_same_number", false, 2, cb_law_same_number⟩,
  ⟨"_law_pick", true, 3, cb_law_pick⟩,
  ⟨"_law_some_ring", true, 2, cb_law_some_ring⟩,
  ⟨"_law_size_here", false, 1, cb_law_size_here⟩,
  ⟨"_law_coefs", false, 2, cb_law_coefs⟩,
  ⟨"_law_code", false, 2, cb_law_code⟩,
  ⟨"_law_sum_here", false, 3, cb_law_sum_here⟩,
  ⟨"_law_product_here", false, 3, cb_law_product_here⟩]
theorem e0 : Fd.fn ⟨fl.take 0, gl, ex⟩ fd_is_integer = ⟨"is_integer", false, 3, cb_is_integer⟩ := by kernel_rfl
theorem e1 : Fd.fn ⟨fl.take 1, gl, ex⟩ fd_times_itself = ⟨"times_itself", false, 2, cb_times_itself⟩ := by kernel_rfl
theorem e2 : Fd.fn ⟨fl.take 2, gl, ex⟩ fd_is_ring = ⟨"is_ring", false, 1, cb_is_ring⟩ := by kernel_rfl
theorem e3 : Fd.fn ⟨fl.take 3, gl, ex⟩ fd_check_ring = ⟨"check_ring", false, 1, cb_check_ring⟩ := by kernel_rfl
theorem e4 : Fd.fn ⟨fl.take 4, gl, ex⟩ fd_size_of = ⟨"size_of", false, 1, cb_size_of⟩ := by kernel_rfl
theorem e5 : Fd.fn ⟨fl.take 5, gl, ex⟩ fd_size = ⟨"size", false, 1, cb_size⟩ := by kernel_rfl
theorem e6 : Fd.fn ⟨fl.take 6, gl, ex⟩ fd_check_element = ⟨"check_element", false, 2, cb_check_element⟩ := by kernel_rfl
theorem e7 : Fd.fn ⟨fl.take 7, gl, ex⟩ fd_check_two = ⟨"check_two", false, 3, cb_check_two⟩ := by kernel_rfl
theorem e8 : Fd.fn ⟨fl.take 8, gl, ex⟩ fd_digits_of = ⟨"digits_of", false, 2, cb_digits_of⟩ := by kernel_rfl
theorem e9 : Fd.fn ⟨fl.take 9, gl, ex⟩ fd_element_of = ⟨"element_of", false, 2, cb_element_of⟩ := by kernel_rfl
theorem e10 : Fd.fn ⟨fl.take 10, gl, ex⟩ fd_plus = ⟨"plus", false, 3, cb_plus⟩ := by kernel_rfl
theorem e11 : Fd.fn ⟨fl.take 11, gl, ex⟩ fd_times = ⟨"times", false, 3, cb_times⟩ := by kernel_rfl
theorem e12 : Fd.fn ⟨fl.take 12, gl, ex⟩ fd_minus = ⟨"minus", false, 2, cb_minus⟩ := by kernel_rfl
theorem e13 : Fd.fn ⟨fl.take 13, gl, ex⟩ fd_raised = ⟨"raised", false, 3, cb_raised⟩ := by kernel_rfl
theorem e14 : Fd.fn ⟨fl.take 14, gl, ex⟩ fd_add = ⟨"add", false, 3, cb_add⟩ := by kernel_rfl
theorem e15 : Fd.fn ⟨fl.take 15, gl, ex⟩ fd_multiply = ⟨"multiply", false, 3, cb_multiply⟩ := by kernel_rfl
theorem e16 : Fd.fn ⟨fl.take 16, gl, ex⟩ fd_negative = ⟨"negative", false, 2, cb_negative⟩ := by kernel_rfl
theorem e17 : Fd.fn ⟨fl.take 17, gl, ex⟩ fd_power = ⟨"power", false, 3, cb_power⟩ := by kernel_rfl
theorem e18 : Fd.fn ⟨fl.take 18, gl, ex⟩ fd_law_cell_at = ⟨"_law_cell_at", false, 2, cb_law_cell_at⟩ := by kernel_rfl
theorem e19 : Fd.fn ⟨fl.take 19, gl, ex⟩ fd_law_mixed = ⟨"_law_mixed", false, 3, cb_law_mixed⟩ := by kernel_rfl
theorem e20 : Fd.fn ⟨fl.take 20, gl, ex⟩ fd_law_draw = ⟨"_law_draw", true, 3, cb_law_draw⟩ := by kernel_rfl
theorem e21 : Fd.fn ⟨fl.take 21, gl, ex⟩ fd_law_same_number = ⟨"_law_same_number", false, 2, cb_law_same_number⟩ := by kernel_rfl
theorem e22 : Fd.fn ⟨fl.take 22, gl, ex⟩ fd_law_pick = ⟨"_law_pick", true, 3, cb_law_pick⟩ := by kernel_rfl
theorem e23 : Fd.fn ⟨fl.take 23, gl, ex⟩ fd_law_some_ring = ⟨"_law_some_ring", true, 2, cb_law_some_ring⟩ := by kernel_rfl
theorem e24 : Fd.fn ⟨fl.take 24, gl, ex⟩ fd_law_size_here = ⟨"_law_size_here", false, 1, cb_law_size_here⟩ := by kernel_rfl
theorem e25 : Fd.fn ⟨fl.take 25, gl, ex⟩ fd_law_coefs = ⟨"_law_coefs", false, 2, cb_law_coefs⟩ := by kernel_rfl
theorem e26 : Fd.fn ⟨fl.take 26, gl, ex⟩ fd_law_code = ⟨"_law_code", false, 2, cb_law_code⟩ := by kernel_rfl
theorem e27 : Fd.fn ⟨fl.take 27, gl, ex⟩ fd_law_sum_here = ⟨"_law_sum_here", false, 3, cb_law_sum_here⟩ := by kernel_rfl
theorem e28 : Fd.fn ⟨fl.take 28, gl, ex⟩ fd_law_product_here = ⟨"_law_product_here", false, 3, cb_law_product_here⟩ := by kernel_rfl
theorem fns_eq : mkFns gl ex fds [] = fl :=
  (mk_step e0).trans <| (mk_step e1).trans <| (mk_step e2).trans <| (mk_step e3).trans <| (mk_step e4).trans <| (mk_step e5).trans <| (mk_step e6).trans <| (mk_step e7).trans <| (mk_step e8).trans <| (mk_step e9).trans <| (mk_step e10).trans <| (mk_step e11).trans <| (mk_step e12).trans <| (mk_step e13).trans <| (mk_step e14).trans <| (mk_step e15).trans <| (mk_step e16).trans <| (mk_step e17).trans <| (mk_step e18).trans <| (mk_step e19).trans <| (mk_step e20).trans <| (mk_step e21).trans <| (mk_step e22).trans <| (mk_step e23).trans <| (mk_step e24).trans <| (mk_step e25).trans <| (mk_step e26).trans <| (mk_step e27).trans <| (mk_step e28).trans <| rfl
theorem law_eq (ns : List Int) : sem ns = cb_law_k01 [] [.scr ns] := by
  show semF ⟨mkFns gl ex fds [], gl, ex⟩ fd_law [] [.scr ns] = _
  rw [fns_eq]
  kernel_rfl
abbrev R : PySem.W.OpenRow := PySem.W.OpenLaw.row PySem.Challenge.rw_powerfields_k01_whole_rings
def fa : List He.Fa := facts ex (fd_law :: fds)
def fn : List He.DefD := (fd_law :: fds).map Fd.dd
abbrev hk : PySem.W.Hook := hookX 4 gl fa fn
def ob (s : PySem.W.SharedT) : He.AlD := obsXG 4 gl fa fn (HandSHeadRun.getT s)
theorem ob_eq (s : PySem.W.SharedT) : ob s = hk.obs s.abs := obsXG_eq (HandSHeadRun.getT_eq s)
theorem run (w : World) : HandSHeadRun.RunEq R (PySem.W.view R.prog [38]) hk ob 1900 names w := by
  intro os
  kernel_rfl
theorem holds_of (h : ∀ ns : List Int, ns.length ≤ 63 → ∃ io, sem ns = .ok (.bool true) io) : PySem.Challenge.rw_powerfields_k01_whole_rings.Holds := by
  w_on; o_law
  refine HandSHeadRun.head_any (r := PySem.W.OpenLaw.row PySem.Challenge.rw_powerfields_k01_whole_rings) (q := PySem.W.view (PySem.W.OpenLaw.row PySem.Challenge.rw_powerfields_k01_whole_rings).prog [38]) (H := hk) (ob := ob) (M := 1900) (loose := names) (d := HandSHeadRun.topDef (PySem.W.OpenLaw.row PySem.Challenge.rw_powerfields_k01_whole_rings).prog 38) (kwd := []) ob_eq
    (by kernel_rfl) (fun s => by kernel_rfl) run (by kernel_rfl) (by kernel_rfl) (by kernel_rfl) (by rfl) (by first | assumption | decide +kernel) (by decide +kernel) ⟨rfl, rfl, rfl, rfl, rfl, by decide +kernel⟩ ?hw ?hc
  case hw => w_witness2
  case hc =>
    exact walkX (l := PySem.Challenge.rw_powerfields_k01_whole_rings) (m := 63) (x := "_law_script") rfl (by decide) (by kernel_rfl) ⟨rfl, by decide +kernel, by decide +kernel⟩ (by kernel_rfl) (by kernel_rfl) (by kernel_rfl) bds okAll okLaw h
end Pk01
end
section
theorem PySem.Challenge.cw_powerfields_k01_whole_rings_holds : PySem.Challenge.rw_powerfields_k01_whole_rings.Holds := by
  exact Pk01.holds_of fun ns _ => ⟨[], (Pk01.law_eq ns).trans (PF.law_k01_ok ns)⟩
end
