import PyProof.Rows.All
import Wide.All
import OpenK.AllK
import Wide.FinOn
import HandS.ForMost
import HandS.ForExc
import HandS.TryMany
import HandS.SortInts
import HandS.Conv
import HandS.Style
import HandS.Deep
import HandS.Zip
import HandS.Strs
import HandS.More
import HandS.SetFor
import HandS.IsInst
import HandS.ExcIs
import PyProof.Rows.SetFrom
import PyProof.SetRoads
import PySem.Challenge.RW_likesums_k05_boards_laid
import KE.RegKIsAll
set_option Elab.async false
set_option linter.all false
set_option maxRecDepth 100000
set_option maxHeartbeats 1000000
/-! The data layer: data stands for values; a mirror (a function over data) tells what a piece of the program gives. -/
namespace DL
open PySem PySem.Spec PyProof.Rows L2

/-! ### data -/
inductive Dt where
  | non
  | bl (b : Bool)
  | int (i : Int)
  | lst (xs : List Dt)
  | tup (xs : List Dt)
  | scr (ns : List Int)

mutual
def Rp (K : PySem.W.Frag) (G : Hp) : Dt → V → Prop
  | .non, v => v = .non
  | .bl b, v => v = .bl b
  | .int i, v => v = .int i
  | .lst ds, v => ∃ a vs, v = .ref a ∧ G a = some (.lst vs) ∧ Rps K G ds vs
  | .tup ds, v => ∃ a vs, v = .ref a ∧ G a = some (.tup vs) ∧ Rps K G ds vs
  | .scr ns, v => ∃ a, v = .ref a ∧ SqL K G a (ns.map V.int)
def Rps (K : PySem.W.Frag) (G : Hp) : List Dt → List V → Prop
  | [], vs => vs = []
  | d :: ds, vs => ∃ v r, vs = v :: r ∧ Rp K G d v ∧ Rps K G ds r
end
section
variable {K : PySem.W.Frag} {G G' H H' : Hp}
mutual
theorem Rp.mono (h : Same G G') : ∀ {d : Dt} {v : V}, Rp K G d v → Rp K G' d v
  | .non, _, r => r
  | .bl _, _, r => r
  | .int _, _, r => r
  | .lst ds, _, ⟨a, vs, e, g, r⟩ => ⟨a, vs, e, h _ _ g, Rps.mono h r⟩
  | .tup ds, _, ⟨a, vs, e, g, r⟩ => ⟨a, vs, e, h _ _ g, Rps.mono h r⟩
  | .scr ns, _, ⟨a, e, g⟩ => ⟨a, e, h.seq g⟩
theorem Rps.mono (h : Same G G') : ∀ {ds : List Dt} {vs : List V}, Rps K G ds vs → Rps K G' ds vs
  | [], _, r => r
  | d :: ds, _, ⟨v, r, e, g, q⟩ => ⟨v, r, e, Rp.mono h g, Rps.mono h q⟩
end
theorem Rps.length : ∀ {ds : List Dt} {vs : List V}, Rps K G ds vs → vs.length = ds.length
  | [], _, r => by rw [show _ = [] from r]; rfl
  | d :: ds, _, ⟨v, r, e, _, q⟩ => by rw [e, List.length_cons, List.length_cons, Rps.length q]
theorem Rps.get : ∀ {ds : List Dt} {vs : List V} {i : Nat} {d : Dt}, Rps K G ds vs → ds[i]? = some d → ∃ v, vs[i]? = some v ∧ Rp K G d v
  | [], _, _, _, _, h => by simp at h
  | d :: ds, _, 0, d', ⟨v, r, e, g, _⟩, h => by
    simp at h; subst h
    exact ⟨v, by rw [e]; rfl, g⟩
  | d :: ds, _, i + 1, d', ⟨v, r, e, _, q⟩, h => by
    obtain ⟨u, h1, h2⟩ := Rps.get (i := i) q (by simpa using h)
    exact ⟨u, by rw [e]; simpa using h1, h2⟩
theorem Rps.getV : ∀ {ds : List Dt} {vs : List V} {i : Nat} {v : V}, Rps K G ds vs → vs[i]? = some v → ∃ d, ds[i]? = some d ∧ Rp K G d v
  | [], _, _, _, r, h => by rw [show _ = [] from r] at h; simp at h
  | d :: ds, _, 0, v', ⟨v, r, e, g, _⟩, h => by
    rw [e] at h; simp at h; subst h
    exact ⟨d, rfl, g⟩
  | d :: ds, _, i + 1, v', ⟨v, r, e, _, q⟩, h => by
    rw [e] at h
    obtain ⟨u, h1, h2⟩ := Rps.getV (i := i) q (by simpa using h)
    exact ⟨u, by simpa using h1, h2⟩
theorem Rps.append : ∀ {ds es : List Dt} {vs ws : List V}, Rps K G ds vs → Rps K G es ws → Rps K G (ds ++ es) (vs ++ ws)
  | [], _, _, _, r, q => by rw [show _ = [] from r]; exact q
  | d :: ds, es, _, ws, ⟨v, r, e, g, h⟩, q => ⟨v, r ++ ws, by rw [e]; rfl, g, Rps.append h q⟩
theorem Rps.take : ∀ {ds : List Dt} {vs : List V} (n : Nat), Rps K G ds vs → Rps K G (ds.take n) (vs.take n)
  | _, _, 0, _ => rfl
  | [], _, _ + 1, r => by rw [show _ = [] from r]; rfl
  | d :: ds, _, n + 1, ⟨v, r, e, g, h⟩ => ⟨v, r.take n, by rw [e]; rfl, g, Rps.take n h⟩
theorem Rps.drop : ∀ {ds : List Dt} {vs : List V} (n : Nat), Rps K G ds vs → Rps K G (ds.drop n) (vs.drop n)
  | _, _, 0, r => r
  | [], _, _ + 1, r => by rw [show _ = [] from r]; rfl
  | d :: ds, _, n + 1, ⟨v, r, e, g, h⟩ => by rw [e]; exact Rps.drop n h
theorem Rps.reverse {ds : List Dt} {vs : List V} (h : Rps K G ds vs) : Rps K G ds.reverse vs.reverse := by
  induction ds generalizing vs with
  | nil => rw [show vs = [] from h]; rfl
  | cons d ds ih =>
    obtain ⟨v, r, e, g, q⟩ := h
    rw [e, List.reverse_cons, List.reverse_cons]
    exact (ih q).append ⟨v, [], rfl, g, rfl⟩
theorem Rps.set {d : Dt} {v : V} (g : Rp K G d v) : ∀ {ds : List Dt} {vs : List V} (i : Nat), Rps K G ds vs → Rps K G (ds.set i d) (vs.set i v)
  | [], _, _, r => by rw [show _ = [] from r]; rfl
  | d' :: ds, _, 0, ⟨v', r, e, _, h⟩ => ⟨v, r, by rw [e]; rfl, g, h⟩
  | d' :: ds, _, i + 1, ⟨v', r, e, g', h⟩ => ⟨v', r.set i v, by rw [e]; rfl, g', Rps.set g i h⟩
theorem Rps.rep {ds : List Dt} {vs : List V} (h : Rps K G ds vs) : ∀ k : Nat, Rps K G (List.replicate k ds).flatten (List.replicate k vs).flatten
  | 0 => rfl
  | k + 1 => by
    rw [List.replicate_succ, List.replicate_succ, List.flatten_cons, List.flatten_cons]
    exact h.append (Rps.rep h k)
theorem Rps.ints : ∀ {ns : List Int} {vs : List V}, Rps K G (ns.map Dt.int) vs → vs = ns.map V.int
  | [], _, r => r
  | n :: ns, _, ⟨v, r, e, g, h⟩ => by rw [e, show v = .int n from g, Rps.ints h]; rfl
theorem Rps.of_ints : ∀ {ns : List Int}, Rps K G (ns.map Dt.int) (ns.map V.int)
  | [] => rfl
  | n :: ns => ⟨.int n, ns.map V.int, rfl, rfl, Rps.of_ints⟩
theorem Rps.bls : ∀ {ns : List Bool} {vs : List V}, Rps K G (ns.map Dt.bl) vs → vs = ns.map V.bl
  | [], _, r => r
  | n :: ns, _, ⟨v, r, e, g, h⟩ => by rw [e, show v = .bl n from g, Rps.bls h]; rfl

/-! ### data whose top levels are owned: the lists at L, each once, stand in H; what is deeper stands in G -/
def Ows (P : Dt → V → List Addr → Prop) : List Dt → List V → List Addr → Prop
  | [], vs, L => vs = [] ∧ L = []
  | d :: ds, vs, L => ∃ v r L1 L2, vs = v :: r ∧ L = L1 ++ L2 ∧ P d v L1 ∧ Ows P ds r L2
def Ow (K : PySem.W.Frag) (H G : Hp) : Nat → Dt → V → List Addr → Prop
  | n + 1, .lst ds, v, L => ∃ a vs L', v = .ref a ∧ H a = some (.lst vs) ∧ L = a :: L' ∧ Ows (Ow K H G n) ds vs L'
  | n + 1, .tup ds, v, L => ∃ a vs L', v = .ref a ∧ H a = some (.tup vs) ∧ L = a :: L' ∧ Ows (Ow K H G n) ds vs L'
  | _, d, v, L => L = [] ∧ Rp K G d v

theorem Ow.zero {d : Dt} {v : V} {L : List Addr} : Ow K H G 0 d v L ↔ L = [] ∧ Rp K G d v := by cases d <;> exact Iff.rfl
theorem Ows.mono {P Q : Dt → V → List Addr → Prop} (h : ∀ d v L, P d v L → Q d v L) : ∀ {ds : List Dt} {vs : List V} {L : List Addr}, Ows P ds vs L → Ows Q ds vs L
  | [], _, _, r => r
  | d :: ds, _, _, ⟨v, r, L1, L2, e1, e2, g, q⟩ => ⟨v, r, L1, L2, e1, e2, h _ _ _ g, Ows.mono h q⟩
/-- .. the relation may lean on its list being a part of the whole -/
theorem Ows.monoL {P Q : Dt → V → List Addr → Prop} : ∀ {ds : List Dt} {vs : List V} {L : List Addr}, (∀ d v L1, (∀ a ∈ L1, a ∈ L) → P d v L1 → Q d v L1) → Ows P ds vs L → Ows Q ds vs L
  | [], _, _, _, r => r
  | d :: ds, _, _, h, ⟨v, r, L1, L2, e1, e2, g, q⟩ => ⟨v, r, L1, L2, e1, e2, h _ _ _ (fun a ha => by rw [e2]; exact List.mem_append_left _ ha) g,
      Ows.monoL (fun d v L3 hs p => h d v L3 (fun a ha => by rw [e2]; exact List.mem_append_right _ (hs a ha)) p) q⟩
theorem Ow.mono (h : Same H H') (g : Same G G') : ∀ {n : Nat} {d : Dt} {v : V} {L : List Addr}, Ow K H G n d v L → Ow K H' G' n d v L := by
  intro n
  induction n with
  | zero =>
    intro d v L r
    rw [Ow.zero] at r ⊢
    exact ⟨r.1, r.2.mono g⟩
  | succ n ih =>
    intro d v L r
    cases d with
    | lst ds => obtain ⟨a, vs, L', e1, e2, e3, q⟩ := r; exact ⟨a, vs, L', e1, h _ _ e2, e3, q.mono fun _ _ _ => ih⟩
    | tup ds => obtain ⟨a, vs, L', e1, e2, e3, q⟩ := r; exact ⟨a, vs, L', e1, h _ _ e2, e3, q.mono fun _ _ _ => ih⟩
    | non => exact ⟨r.1, r.2⟩
    | bl b => exact ⟨r.1, r.2⟩
    | int i => exact ⟨r.1, r.2⟩
    | scr ns => exact ⟨r.1, (show Rp K G (.scr ns) v from r.2).mono g⟩
/-- what is owned changes at places outside: the owned objects stay -/
theorem Ow.move (g : Same G G') : ∀ {n : Nat} {d : Dt} {v : V} {L : List Addr}, (∀ a ∈ L, ∀ o, H a = some o → H' a = some o) → Ow K H G n d v L → Ow K H' G' n d v L := by
  intro n
  induction n with
  | zero =>
    intro d v L _ r
    rw [Ow.zero] at r ⊢
    exact ⟨r.1, r.2.mono g⟩
  | succ n ih =>
    intro d v L hL r
    cases d with
    | lst ds =>
      obtain ⟨a, vs, L', e1, e2, e3, q⟩ := r
      subst e3
      exact ⟨a, vs, L', e1, hL a List.mem_cons_self _ e2, rfl, q.monoL fun d v L1 hs p => ih (fun b hb o e => hL b (List.mem_cons_of_mem _ (hs b hb)) o e) p⟩
    | tup ds =>
      obtain ⟨a, vs, L', e1, e2, e3, q⟩ := r
      subst e3
      exact ⟨a, vs, L', e1, hL a List.mem_cons_self _ e2, rfl, q.monoL fun d v L1 hs p => ih (fun b hb o e => hL b (List.mem_cons_of_mem _ (hs b hb)) o e) p⟩
    | non => exact ⟨r.1, r.2⟩
    | bl b => exact ⟨r.1, r.2⟩
    | int i => exact ⟨r.1, r.2⟩
    | scr ns => exact ⟨r.1, (show Rp K G (.scr ns) v from r.2).mono g⟩
/-- in a view that has the owned objects too, all is shared -/
theorem Ow.rp (g : Same G G') : ∀ {n : Nat} {d : Dt} {v : V} {L : List Addr}, (∀ a ∈ L, ∀ o, H a = some o → G' a = some o) → Ow K H G n d v L → Rp K G' d v := by
  intro n
  induction n with
  | zero =>
    intro d v L hL r
    rw [Ow.zero] at r
    exact r.2.mono g
  | succ n ih =>
    intro d v L hL r
    have all : ∀ {ds : List Dt} {vs : List V} {L : List Addr}, (∀ a ∈ L, ∀ o, H a = some o → G' a = some o) → Ows (Ow K H G n) ds vs L → Rps K G' ds vs := by
      intro ds
      induction ds with
      | nil => intro vs L _ q; exact q.1
      | cons d ds ihd =>
        intro vs L hL q
        obtain ⟨v, r, L1, L2, e1, e2, p, q⟩ := q
        subst e2
        exact ⟨v, r, e1, ih (fun a ha => hL a (List.mem_append_left _ ha)) p, ihd (fun a ha => hL a (List.mem_append_right _ ha)) q⟩
    cases d with
    | lst ds =>
      obtain ⟨a, vs, L', e1, e2, e3, q⟩ := r
      subst e3
      exact ⟨a, vs, e1, hL a List.mem_cons_self _ e2, all (fun b hb => hL b (List.mem_cons_of_mem _ hb)) q⟩
    | tup ds =>
      obtain ⟨a, vs, L', e1, e2, e3, q⟩ := r
      subst e3
      exact ⟨a, vs, e1, hL a List.mem_cons_self _ e2, all (fun b hb => hL b (List.mem_cons_of_mem _ hb)) q⟩
    | non => exact r.2
    | bl b => exact r.2
    | int i => exact r.2
    | scr ns => exact (show Rp K G (.scr ns) v from r.2).mono g
/-- owned lists stand in the heap -/
theorem Ow.there : ∀ {n : Nat} {d : Dt} {v : V} {L : List Addr}, Ow K H G n d v L → ∀ a ∈ L, ∃ o, H a = some o := by
  intro n
  induction n with
  | zero =>
    intro d v L r a ha
    rw [Ow.zero] at r
    rw [r.1] at ha; cases ha
  | succ n ih =>
    intro d v L r
    have all : ∀ {ds : List Dt} {vs : List V} {L : List Addr}, Ows (Ow K H G n) ds vs L → ∀ a ∈ L, ∃ o, H a = some o := by
      intro ds
      induction ds with
      | nil => intro vs L q a ha; rw [q.2] at ha; cases ha
      | cons d ds ihd =>
        intro vs L q a ha
        obtain ⟨v, r, L1, L2, e1, e2, p, q⟩ := q
        rw [e2] at ha
        rcases List.mem_append.mp ha with ha | ha
        · exact ih p a ha
        · exact ihd q a ha
    cases d with
    | lst ds =>
      obtain ⟨a, vs, L', e1, e2, e3, q⟩ := r
      subst e3
      intro b hb
      rcases List.mem_cons.mp hb with rfl | hb
      · exact ⟨_, e2⟩
      · exact all q b hb
    | tup ds =>
      obtain ⟨a, vs, L', e1, e2, e3, q⟩ := r
      subst e3
      intro b hb
      rcases List.mem_cons.mp hb with rfl | hb
      · exact ⟨_, e2⟩
      · exact all q b hb
    | non => intro a ha; rw [r.1] at ha; cases ha
    | bl b => intro a ha; rw [r.1] at ha; cases ha
    | int i => intro a ha; rw [r.1] at ha; cases ha
    | scr ns => intro a ha; rw [r.1] at ha; cases ha

def isScal : Dt → Bool
  | .non => true
  | .bl _ => true
  | .int _ => true
  | _ => false
/-- nothing stands below depth n -/
def deep : Nat → Dt → Bool
  | n + 1, .lst ds => ds.all (deep n)
  | n + 1, .tup ds => ds.all (deep n)
  | _, d => isScal d
theorem Ow.scal {n m : Nat} {d : Dt} {v : V} {L : List Addr} {H' G' : Hp} (h : isScal d = true) (r : Ow K H G n d v L) : L = [] ∧ Ow K H' G' m d v [] ∧ Rp K G' d v := by
  cases d with
  | non => cases n <;> cases m <;> exact ⟨r.1, ⟨rfl, r.2⟩, r.2⟩
  | bl b => cases n <;> cases m <;> exact ⟨r.1, ⟨rfl, r.2⟩, r.2⟩
  | int i => cases n <;> cases m <;> exact ⟨r.1, ⟨rfl, r.2⟩, r.2⟩
  | _ => simp [isScal] at h
theorem deep_zero {d : Dt} : deep 0 d = isScal d := by cases d <;> rfl
theorem Ow.deep : ∀ {n m : Nat} {d : Dt} {v : V} {L : List Addr} {G' : Hp}, deep n d = true → n ≤ m → Ow K H G n d v L → Ow K H G' m d v L := by
  intro n
  induction n with
  | zero =>
    intro m d v L G' h _ r
    rw [deep_zero] at h
    obtain ⟨e, q, _⟩ := r.scal (m := m) (H' := H) (G' := G') h
    rw [e]; exact q
  | succ n ih =>
    intro m d v L G' h hm r
    obtain ⟨m, rfl⟩ : ∃ k, m = k + 1 := ⟨m - 1, by omega⟩
    have all : ∀ {ds : List Dt} {vs : List V} {L : List Addr}, ds.all (DL.deep n) = true → Ows (Ow K H G n) ds vs L → Ows (Ow K H G' m) ds vs L := by
      intro ds
      induction ds with
      | nil => intro vs L _ q; exact q
      | cons d ds ihd =>
        intro vs L hd q
        rw [List.all_cons, Bool.and_eq_true] at hd
        obtain ⟨v, r, L1, L2, e1, e2, p, q⟩ := q
        exact ⟨v, r, L1, L2, e1, e2, ih hd.1 (by omega) p, ihd hd.2 q⟩
    cases d with
    | lst ds =>
      obtain ⟨a, vs, L', e1, e2, e3, q⟩ := r
      exact ⟨a, vs, L', e1, e2, e3, all h q⟩
    | tup ds =>
      obtain ⟨a, vs, L', e1, e2, e3, q⟩ := r
      exact ⟨a, vs, L', e1, e2, e3, all h q⟩
    | non => exact ⟨r.1, r.2⟩
    | bl b => exact ⟨r.1, r.2⟩
    | int i => exact ⟨r.1, r.2⟩
    | scr ns => simp [DL.deep, isScal] at h
end
end DL

set_option Elab.async false
set_option linter.all false
set_option maxRecDepth 100000
set_option maxHeartbeats 1000000
namespace DL
open PySem PySem.Spec PyProof.Rows L2

/-! ### answers -/
inductive Res (α : Type) where
  | ok (a : α)
  | exc (c : Nat)
  | bad
def Res.bind {α β : Type} (r : Res α) (f : α → Res β) : Res β := match r with
  | .ok a => f a
  | .exc c => .exc c
  | .bad => .bad
@[simp] theorem Res.bind_ok {α β : Type} (a : α) (f : α → Res β) : (Res.ok a).bind f = f a := rfl
@[simp] theorem Res.bind_exc {α β : Type} (c : Nat) (f : α → Res β) : (Res.exc c : Res α).bind f = .exc c := rfl
@[simp] theorem Res.bind_bad {α β : Type} (f : α → Res β) : (Res.bad : Res α).bind f = .bad := rfl
def guardR {α : Type} (b : Bool) (r : Res α) : Res α := if b = true then r else .bad
@[simp] theorem guardR_true {α : Type} (r : Res α) : guardR true r = r := rfl
@[simp] theorem guardR_false {α : Type} (r : Res α) : guardR false r = .bad := rfl

abbrev Ev := List (Option Dt)
abbrev Mr := Ev → Res Dt
/-- what an expression may do to the tracked heap and to the view -/
structure Stp (H G H' G' : Hp) : Prop where
  h : Same H H'
  g : Same G G'
  s : Same G' H'
  new : ∀ a o, G' a = some o → (∃ u, G a = some u) ∨ H a = none
theorem Stp.refl {H G : Hp} (s : Same G H) : Stp H G H G := ⟨Same.refl _, Same.refl _, s, fun a o e => .inl ⟨o, e⟩⟩
theorem Stp.trans {H G H1 G1 H2 G2 : Hp} (a : Stp H G H1 G1) (b : Stp H1 G1 H2 G2) : Stp H G H2 G2 :=
  ⟨a.h.trans b.h, a.g.trans b.g, b.s, fun p o e => by
    rcases b.new p o e with ⟨u, q⟩ | q
    · exact a.new p u q
    · refine .inr ?_
      cases z : H p with
      | none => rfl
      | some u => rw [a.h _ _ z] at q; cases q⟩
/-- a new object, in the view -/
theorem Stp.newG {H G : Hp} (s : Same G H) {p : Addr} (np : H p = none) (o : HO) : Stp H G (upd H p o) (upd G p o) := by
  refine ⟨fun b u e => ?_, fun b u e => ?_, fun b u e => ?_, fun b u e => ?_⟩
  · rw [upd_ne (ne_of_none e np)]; exact e
  · rw [upd_ne (ne_of_none (s _ _ e) np)]; exact e
  · by_cases hb : b = p
    · subst hb; rw [upd_same] at e ⊢; exact e
    · rw [upd_ne hb] at e ⊢; exact s _ _ e
  · by_cases hb : b = p
    · subst hb; exact .inr np
    · rw [upd_ne hb] at e; exact .inl ⟨u, e⟩
/-- .. beside the view -/
theorem Stp.newH {H G : Hp} (s : Same G H) {p : Addr} (np : H p = none) (o : HO) : Stp H G (upd H p o) G := by
  have k : Same H (upd H p o) := fun b u e => by rw [upd_ne (ne_of_none e np)]; exact e
  exact ⟨k, Same.refl _, s.trans k, fun b u e => .inl ⟨u, e⟩⟩
/-- with any view that lies between -/
theorem Stp.view {H G H' G1 G2 : Hp} (a : Stp H G H' G1) (g : Same G1 G2) (s : Same G2 H') (new : ∀ p o, G2 p = some o → (∃ u, G1 p = some u) ∨ H p = none) : Stp H G H' G2 :=
  ⟨a.h, a.g.trans g, s, fun p o e => by
    rcases new p o e with ⟨u, q⟩ | q
    · exact a.new p u q
    · exact .inr q⟩
theorem none_back {H H' : Hp} (s : Same H H') {a : Addr} (n : H' a = none) : H a = none := s.free n

section
variable (K : PySem.W.Frag) (cm : Nat → Value)
def Post (E : XK) (n : Nat) (H G : Hp) (r : Res Dt) (Q : VK) : Prop := match r with
  | .ok d => ∀ v H' G' L, Stp H G H' G' → L.Nodup → (∀ a ∈ L, H a = none ∧ G' a = none) → Ow K H' G' n d v L → Q v H'
  | .exc c => ∀ H', Same H H' → E (cm c) none H'
  | .bad => False
def Posts (E : XK) (n : Nat) (H G : Hp) (r : Res (List Dt)) (Q : List V → Hp → Prop) : Prop := match r with
  | .ok ds => ∀ vs H' G' L, Stp H G H' G' → L.Nodup → (∀ a ∈ L, H a = none ∧ G' a = none) → Ows (Ow K H' G' n) ds vs L → Q vs H'
  | .exc c => ∀ H', Same H H' → E (cm c) none H'
  | .bad => False
/-- the names' data -/
structure EvR (G : Hp) (Γ : Ev) (σ : L2.St) : Prop where
  at_ : ∀ (i : Nat) (d : Dt), Γ[i]? = some (some d) → ∃ v, σ[i]? = some (some v) ∧ Rp K G d v
  len : Γ.length = σ.length
def tD (E : L2.St → XK) (n : Nat) (m : Mr) : TE := fun σ H Q => ∃ G Γ, Same G H ∧ EvR K G Γ σ ∧ Post K cm (E σ) n H G (m Γ) Q
def tDs (E : L2.St → XK) (n : Nat) (m : Ev → Res (List Dt)) : TA := fun σ H Q => ∃ G Γ, Same G H ∧ EvR K G Γ σ ∧ Posts K cm (E σ) n H G (m Γ) Q
def PostT (E : XK) (H G : Hp) (r : Res Bool) (Q : Bool → Hp → Prop) : Prop := match r with
  | .ok b => ∀ H' G', Stp H G H' G' → Q b H'
  | .exc c => ∀ H', Same H H' → E (cm c) none H'
  | .bad => False
def tDT (E : L2.St → XK) (m : Ev → Res Bool) : TT := fun σ H Q => ∃ G Γ, Same G H ∧ EvR K G Γ σ ∧ PostT cm (E σ) H G (m Γ) Q
end
theorem EvR.mono {K : PySem.W.Frag} {G G' : Hp} {Γ : Ev} {σ : L2.St} (h : EvR K G Γ σ) (s : Same G G') : EvR K G' Γ σ := ⟨fun i d e => let ⟨v, h1, h2⟩ := h.at_ i d e; ⟨v, h1, h2.mono s⟩, h.len⟩

section
variable {K : PySem.W.Frag} {cm : Nat → Value} {E : XK} {n : Nat} {H G H1 G1 : Hp} {Q : VK}
theorem Post.step {r : Res Dt} (p : Post K cm E n H G r Q) (s : Stp H G H1 G1) : Post K cm E n H1 G1 r Q := by
  cases r with
  | ok d => exact fun v H' G' L t nd fr o => p v H' G' L (s.trans t) nd (fun a ha => ⟨none_back s.h (fr a ha).1, (fr a ha).2⟩) o
  | exc c => exact fun H' t => p H' (s.h.trans t)
  | bad => exact p
theorem Posts.step {r : Res (List Dt)} {Q : List V → Hp → Prop} (p : Posts K cm E n H G r Q) (s : Stp H G H1 G1) : Posts K cm E n H1 G1 r Q := by
  cases r with
  | ok d => exact fun v H' G' L t nd fr o => p v H' G' L (s.trans t) nd (fun a ha => ⟨none_back s.h (fr a ha).1, (fr a ha).2⟩) o
  | exc c => exact fun H' t => p H' (s.h.trans t)
  | bad => exact p
theorem PostT.step {r : Res Bool} {Q : Bool → Hp → Prop} (p : PostT cm E H G r Q) (s : Stp H G H1 G1) : PostT cm E H1 G1 r Q := by
  cases r with
  | ok d => exact fun H' G' t => p H' G' (s.trans t)
  | exc c => exact fun H' t => p H' (s.h.trans t)
  | bad => exact p
/-- an answer that is there, shared -/
theorem Post.here {d : Dt} {v : V} (p : Post K cm E 0 H G (.ok d) Q) (s : Same G H) (r : Rp K G d v) : Q v H :=
  p v H G [] (.refl s) List.nodup_nil (fun a ha => nomatch ha) (by rw [Ow.zero]; exact ⟨rfl, r⟩)
/-- a scalar answer -/
theorem Post.scal {d : Dt} {v : V} (p : Post K cm E n H G (.ok d) Q) (s : Same G H) (h : isScal d = true) (r : Rp K G d v) : Q v H := by
  refine p v H G [] (.refl s) List.nodup_nil (fun a ha => nomatch ha) ?_
  exact (Ow.scal (H := H) (G := G) (n := 0) (L := []) h (by rw [Ow.zero]; exact ⟨rfl, r⟩)).2.1
/-- a new list of shared items, at level 0 or 1 -/
theorem Post.list {ds : List Dt} {vs : List V} {p : Addr} (po : Post K cm E n H G (.ok (.lst ds)) Q) (hn : n ≤ 1) (s : Same G H) (np : H p = none) (r : Rps K G ds vs) : Q (.ref p) (upd H p (.lst vs)) := by
  have ngp : G p = none := none_back s np
  rcases Nat.le_one_iff_eq_zero_or_eq_one.mp hn with rfl | rfl
  · refine po (.ref p) _ (upd G p (.lst vs)) [] (.newG s np _) List.nodup_nil (fun a ha => nomatch ha) ?_
    rw [Ow.zero]
    exact ⟨rfl, p, vs, rfl, upd_same, r.mono (Stp.newG s np (.lst vs)).g⟩
  · refine po (.ref p) _ G [p] (.newH s np _) (by simp) (fun a ha => ?_) ?_
    · rw [List.mem_singleton] at ha; subst ha; exact ⟨np, ngp⟩
    · refine ⟨p, vs, [], rfl, upd_same, rfl, ?_⟩
      have all : ∀ {ds : List Dt} {vs : List V}, Rps K G ds vs → Ows (Ow K (upd H p (.lst vs)) G 0) ds vs [] := by
        intro ds
        induction ds with
        | nil => intro vs r; exact ⟨r, rfl⟩
        | cons d ds ih =>
          intro vs r
          obtain ⟨v, t, e, g, q⟩ := r
          refine ⟨v, t, [], [], e, rfl, by rw [Ow.zero]; exact ⟨rfl, g⟩, ?_⟩
          exact (ih q).mono fun d v L o => by rw [Ow.zero] at o ⊢; exact o
      have all' : ∀ {ds : List Dt} {us : List V} {Hx : Hp}, Rps K G ds us → Ows (Ow K Hx G 0) ds us [] := by
        intro ds us Hx r
        exact (all r).mono fun d v L o => by rw [Ow.zero] at o ⊢; exact o
      exact all' r
/-- owned items, shared from now on -/
theorem Ows.zero_of : ∀ {ds : List Dt} {vs : List V} {L : List Addr} {Hx : Hp}, Ows (Ow K Hx G 0) ds vs L → L = [] ∧ Rps K G ds vs
  | [], _, _, _, r => ⟨r.2, r.1⟩
  | d :: ds, _, _, _, ⟨v, r, L1, L2, e1, e2, p, q⟩ => by
    rw [Ow.zero] at p
    obtain ⟨q1, q2⟩ := Ows.zero_of q
    exact ⟨by rw [e2, p.1, q1]; rfl, v, r, e1, p.2, q2⟩
theorem Ows.of_zero : ∀ {ds : List Dt} {vs : List V} {Hx : Hp}, Rps K G ds vs → Ows (Ow K Hx G 0) ds vs []
  | [], _, _, r => ⟨r, rfl⟩
  | d :: ds, _, _, ⟨v, r, e, g, q⟩ => ⟨v, r, [], [], e, rfl, by rw [Ow.zero]; exact ⟨rfl, g⟩, Ows.of_zero q⟩
end

/-! ### the judgements -/
def DE (X : Cx) (cm : Nat → Value) (E : L2.St → XK) (n : Nat) (e : Expr) (m : Mr) : Prop := PE X e (tD X.K cm E n m)
def DA (X : Cx) (cm : Nat → Value) (E : L2.St → XK) (n : Nat) (es : List Expr) (m : Ev → Res (List Dt)) : Prop := PA X es (tDs X.K cm E n m)
def DT (X : Cx) (cm : Nat → Value) (E : L2.St → XK) (e : Expr) (m : Ev → Res Bool) : Prop := PT X e (tDT X.K cm E m)
def DW (X : Cx) (cm : Nat → Value) (E : L2.St → XK) (e : Expr) (m : Ev → Res Bool) : Prop := PW X e (tDT X.K cm E m)

theorem PE.of {X : Cx} {e : Expr} {t t' : TE} (h : PE X e t) (w : ∀ σ H Q, t' σ H Q → t σ H Q) : PE X e t' := ⟨fun pins s σ H Q I q => h.run pins s σ H Q I (w σ H Q q)⟩
theorem PA.of {X : Cx} {e : List Expr} {t t' : TA} (h : PA X e t) (w : ∀ σ H Q, t' σ H Q → t σ H Q) : PA X e t' := ⟨fun pos pins s σ H Q I q => h.run pos pins s σ H Q I (w σ H Q q)⟩
theorem PT.of {X : Cx} {e : Expr} {t t' : TT} (h : PT X e t) (w : ∀ σ H Q, t' σ H Q → t σ H Q) : PT X e t' := ⟨fun pins s σ H Q I q => h.run pins s σ H Q I (w σ H Q q)⟩
theorem PW.of {X : Cx} {e : Expr} {t t' : TT} (h : PW X e t) (w : ∀ σ H Q, t' σ H Q → t σ H Q) : PW X e t' := ⟨fun wh pins s σ H Q I q => h.run wh pins s σ H Q I (w σ H Q q)⟩

section
variable {X : Cx} {cm : Nat → Value} {E : L2.St → XK} {n : Nat} {a b c e : Expr} {ma mb mc : Mr} {pos : Pos}

/-! ### names, constants -/
def mVar (i : Nat) : Mr := fun Γ => match Γ[i]? with
  | some (some d) => .ok d
  | _ => .bad
theorem de_var {i : Nat} (h : PE X e (tVar i)) : DE X cm E 0 e (mVar i) := by
  refine PE.of h fun σ H Q ⟨G, Γ, s, ev, po⟩ => ?_
  unfold mVar at po
  split at po
  · rename_i d hd
    obtain ⟨v, h1, h2⟩ := ev.at_ i d hd
    exact ⟨v, h1, po.here s h2⟩
  · exact po.elim
def mC (d : Dt) : Mr := fun _ => .ok d
theorem de_int {i : Int} {j : Nat} : DE X cm E n (.Constant (.int i) j pos) (mC (.int i)) :=
  PE.of pe_int fun σ H Q ⟨G, Γ, s, ev, po⟩ => po.scal s rfl rfl
theorem de_bl {b : Bool} {j : Nat} : DE X cm E n (.Constant (.bool b) j pos) (mC (.bl b)) :=
  PE.of pe_bl fun σ H Q ⟨G, Γ, s, ev, po⟩ => po.scal s rfl rfl
theorem de_non {j : Nat} : DE X cm E n (.Constant .none j pos) (mC .non) :=
  PE.of pe_non fun σ H Q ⟨G, Γ, s, ev, po⟩ => po.scal s rfl rfl
/-- a module's int constant -/
theorem de_glob {x : Str} {i : Int} {u : Value} (hg : Gl X x) (hm : X.mg x = some u) (r : RelV (.int i) u) (hd : (x == ("__debug__" : Str)) = false := by decide) : DE X cm E n (.Name x pos) (mC (.int i)) :=
  PE.of (pe_glob hg hm r hd) fun σ H Q ⟨G, Γ, s, ev, po⟩ => po.scal s rfl rfl

/-! ### two parts, by values -/

def mBin (f : Dt → Dt → Res Dt) (ma mb : Mr) : Mr := fun Γ => (ma Γ).bind fun x => (mb Γ).bind fun y => f x y
/-- what two parts give, under a rule for two values -/
theorem bin_ok {K : PySem.W.Frag} {r : R2} {f : Dt → Dt → Res Dt} {σ : L2.St} {H G : Hp} {Γ : Ev} {Q : VK}
    (hf : ∀ (E : XK) x y H G d1 d2 Q, Same G H → Rp K G d1 x → Rp K G d2 y → Post K cm E n H G (f d1 d2) Q → r x y H Q)
    (s : Same G H) (ev : EvR K G Γ σ) (po : Post K cm (E σ) n H G (mBin f ma mb Γ) Q) : tOp r (tD K cm E 0 ma) (tD K cm E 0 mb) σ H Q := by
  refine ⟨G, Γ, s, ev, ?_⟩
  unfold mBin at po
  cases hx : ma Γ with
  | bad => rw [hx] at po; exact po.elim
  | exc c => rw [hx] at po; exact po
  | ok x =>
    rw [hx, Res.bind_ok] at po
    intro v H1 G1 L st _ _ ow
    rw [Ow.zero] at ow
    refine ⟨G1, Γ, st.s, ev.mono st.g, ?_⟩
    have po1 := po.step st
    cases hy : mb Γ with
    | bad => rw [hy] at po1; exact po1.elim
    | exc c => rw [hy] at po1; exact po1
    | ok y =>
      rw [hy, Res.bind_ok] at po1
      intro v2 H2 G2 L2 st2 _ _ ow2
      rw [Ow.zero] at ow2
      exact hf (E σ) v v2 H2 G2 x y Q st2.s (ow.2.mono st2.g) ow2.2 (po1.step st2)
theorem de_bin {op : Operator} {r : R2} {f : Dt → Dt → Res Dt} (ho : OpR X (binaryOp op) r)
    (hf : ∀ (E : XK) x y H G d1 d2 Q, Same G H → Rp X.K G d1 x → Rp X.K G d2 y → Post X.K cm E n H G (f d1 d2) Q → r x y H Q)
    (ha : DE X cm E 0 a ma) (hb : DE X cm E 0 b mb) : DE X cm E n (.BinOp a op b pos) (mBin f ma mb) :=
  PE.of (pe_op ho ha hb) fun σ H Q ⟨G, Γ, s, ev, po⟩ => bin_ok hf s ev po
theorem de_cmp {op : CmpOp} {r : R2} {f : Dt → Dt → Res Dt} (ho : OpR X (compareOp op) r)
    (hf : ∀ (E : XK) x y H G d1 d2 Q, Same G H → Rp X.K G d1 x → Rp X.K G d2 y → Post X.K cm E n H G (f d1 d2) Q → r x y H Q)
    (ha : DE X cm E 0 a ma) (hb : DE X cm E 0 b mb) (hm : behindInMarks op b = false) : DE X cm E n (.Compare a [op] [b] pos) (mBin f ma mb) :=
  PE.of (pe_cmpR ho ha hb hm) fun σ H Q ⟨G, Γ, s, ev, po⟩ => bin_ok hf s ev po
def toB (r : Res Dt) : Res Bool := r.bind fun d => match d with
  | .bl b => .ok b
  | _ => .bad
def mTest (m : Mr) : Ev → Res Bool := fun Γ => toB (m Γ)
/-- a bool's test from its value -/
theorem test_ok {K : PySem.W.Frag} {E : XK} {H G : Hp} {r : Res Dt} {Q : Bool → Hp → Prop} (po : PostT cm E H G (toB r) Q) : Post K cm E 0 H G r fun x H' => ∃ k, x = V.bl k ∧ Q k H' := by
  cases r with
  | bad => exact po
  | exc c => exact po
  | ok d =>
    cases d with
    | bl b =>
      intro v H' G' L st _ _ ow
      rw [Ow.zero] at ow
      exact ⟨b, ow.2, po H' G' st⟩
    | _ => exact (show False from po).elim
theorem dt_cmp {op : CmpOp} {r : R2} {f : Dt → Dt → Res Dt} (ho : OpR X (compareOp op) r)
    (hf : ∀ (E : XK) x y H G d1 d2 Q, Same G H → Rp X.K G d1 x → Rp X.K G d2 y → Post X.K cm E 0 H G (f d1 d2) Q → r x y H Q)
    (ha : DE X cm E 0 a ma) (hb : DE X cm E 0 b mb) (hm : behindInMarks op b = false) : DT X cm E (.Compare a [op] [b] pos) (mTest (mBin f ma mb)) :=
  PT.of (pt_cmpR ho ha hb hm) fun σ H Q ⟨G, Γ, s, ev, po⟩ => bin_ok hf s ev (test_ok po)
/-- an expression that gives a bool, as a test -/
theorem dt_val (h : DE X cm E 0 e ma) (he : ∀ whole, isTrue e X.env whole = (do let v ← whole; standAt e.pos; holding [v] (truthy v)) := by intro _; rfl) : DT X cm E e (mTest ma) :=
  PT.of (pt_val h he) fun σ H Q ⟨G, Γ, s, ev, po⟩ => ⟨G, Γ, s, ev, test_ok po⟩
end
end DL

set_option Elab.async false
set_option linter.all false
set_option maxRecDepth 100000
set_option maxHeartbeats 1000000
namespace DL
open PySem PySem.Spec PyProof.Rows L2

/-! ### data as the kit's data -/
mutual
def py : Dt → PyData
  | .non => .none
  | .bl b => .bool b
  | .int i => .int i
  | .lst ds => .list (pys ds)
  | .tup ds => .tuple (pys ds)
  | .scr _ => .none
def pys : List Dt → List PyData
  | [] => []
  | d :: ds => py d :: pys ds
end
theorem pys_map : ∀ ds : List Dt, pys ds = ds.map py
  | [] => rfl
  | d :: ds => by rw [pys, pys_map ds]; rfl
def dEq (x y : Dt) : Bool := PyData.eqv (py x) (py y)
theorem deep_succ : ∀ {n : Nat} {d : Dt}, deep n d = true → deep (n + 1) d = true := by
  intro n
  induction n with
  | zero =>
    intro d h
    rw [deep_zero] at h
    cases d <;> first | rfl | simp [isScal] at h
  | succ n ih =>
    intro d h
    cases d with
    | lst ds =>
      show ds.all (deep (n + 1)) = true
      exact List.all_eq_true.mpr fun x hx => ih (List.all_eq_true.mp (show ds.all (deep n) = true from h) x hx)
    | tup ds =>
      show ds.all (deep (n + 1)) = true
      exact List.all_eq_true.mpr fun x hx => ih (List.all_eq_true.mp (show ds.all (deep n) = true from h) x hx)
    | scr ns => simp [deep, isScal] at h
    | _ => rfl
theorem depthAll_le : ∀ {n : Nat} {ds : List PyData}, (∀ d ∈ ds, d.depth ≤ n) → PyData.depthAll ds ≤ n
  | n, [], _ => by rw [PyData.depthAll]; omega
  | n, d :: ds, h => by
    rw [PyData.depthAll]
    have h1 := h d List.mem_cons_self
    have h2 := depthAll_le (ds := ds) fun x hx => h x (List.mem_cons_of_mem _ hx)
    omega
theorem lay_all : ∀ {ds : List PyData}, (∀ d ∈ ds, d.canLay0 = true) → PyData.canLayAll0 ds = true
  | [], _ => by rw [PyData.canLayAll0]
  | d :: ds, h => by
    rw [PyData.canLayAll0, h d List.mem_cons_self, lay_all fun x hx => h x (List.mem_cons_of_mem _ hx)]; rfl
theorem py_deep : ∀ {n : Nat} {d : Dt}, deep n d = true → (py d).canLay0 = true ∧ (py d).depth ≤ n := by
  intro n
  induction n with
  | zero =>
    intro d h
    rw [deep_zero] at h
    cases d <;> first | exact ⟨rfl, Nat.le_refl _⟩ | (simp [isScal] at h; done) | (constructor <;> simp [py, PyData.canLay0, PyData.depth])
  | succ n ih =>
    intro d h
    have go : ∀ {ds : List Dt}, ds.all (deep n) = true → PyData.canLayAll0 (pys ds) = true ∧ PyData.depthAll (pys ds) ≤ n := fun {ds} h => by
      rw [pys_map]
      have k : ∀ x ∈ ds.map py, x.canLay0 = true ∧ x.depth ≤ n := fun x hx => by
        obtain ⟨y, hy, rfl⟩ := List.mem_map.mp hx
        exact ih (List.all_eq_true.mp h y hy)
      exact ⟨lay_all fun x hx => (k x hx).1, depthAll_le fun x hx => (k x hx).2⟩
    cases d with
    | lst ds =>
      obtain ⟨h1, h2⟩ := go (ds := ds) h
      rw [py, PyData.canLay0, PyData.depth]
      exact ⟨h1, by omega⟩
    | tup ds =>
      obtain ⟨h1, h2⟩ := go (ds := ds) h
      rw [py, PyData.canLay0, PyData.depth]
      exact ⟨h1, by omega⟩
    | scr ns => simp [deep, isScal] at h
    | non => constructor <;> simp [py, PyData.canLay0, PyData.depth]
    | bl b => constructor <;> simp [py, PyData.canLay0, PyData.depth]
    | int b => constructor <;> simp [py, PyData.canLay0, PyData.depth]
theorem shaped_deep {d : Dt} (h : deep 6 d = true) : SeqAt.shaped (py d) = true := by
  obtain ⟨h1, h2⟩ := py_deep h
  unfold SeqAt.shaped
  rw [h1, Bool.true_and]
  exact decide_eq_true (by omega)
section
variable {K : PySem.W.Frag} {G H : Hp}
theorem Dp.mono (s : Same G H) : True := trivial
mutual
theorem dp_of (s : Same G H) : ∀ {n : Nat} {d : Dt} {v : V}, deep n d = true → Rp K G d v → Dp K H v (py d)
  | _, .non, _, _, r => by rw [show _ = _ from r, py]; exact .non
  | _, .bl b, _, _, r => by rw [show _ = _ from r, py]; exact .bl b
  | _, .int i, _, _, r => by rw [show _ = _ from r, py]; exact .int i
  | n + 1, .lst ds, _, h, ⟨a, vs, e, g, r⟩ => by rw [e, py]; exact .lst (.inl (.inl (s _ _ g))) (dps_of s (n := n) h r)
  | n + 1, .tup ds, _, h, ⟨a, vs, e, g, r⟩ => by rw [e, py]; exact .tup (.inl (.inl (s _ _ g))) (dps_of s (n := n) h r)
  | 0, .lst ds, _, h, _ => by simp [deep, isScal] at h
  | 0, .tup ds, _, h, _ => by simp [deep, isScal] at h
  | 0, .scr ds, _, h, _ => by simp [deep, isScal] at h
  | n + 1, .scr ds, _, h, _ => by simp [deep, isScal] at h
theorem dps_of (s : Same G H) : ∀ {n : Nat} {ds : List Dt} {vs : List V}, ds.all (deep n) = true → Rps K G ds vs → DpAll K H vs (pys ds)
  | _, [], _, _, r => by rw [show _ = _ from r, pys]; exact .nil
  | n, d :: ds, _, h, ⟨v, r, e, g, q⟩ => by
    rw [List.all_cons, Bool.and_eq_true] at h
    rw [e, pys]
    exact .cons (dp_of s (n := n) h.1 g) (dps_of s h.2 q)
end
theorem atI_rps {ds : List Dt} {vs : List V} {i : Int} {d : Dt} (r : Rps K G ds vs) (h : atI ds i = some d) : ∃ v, atI vs i = some v ∧ Rp K G d v := by
  unfold atI at h ⊢
  rw [r.length]
  cases e : ixN ds.length i with
  | none => rw [e] at h; cases h
  | some j =>
    rw [e, Option.bind_some] at h
    exact r.get h
end

/-! ### numbers -/
def fAdd : Dt → Dt → Res Dt
  | .int i, .int j => .ok (.int (i + j))
  | .lst xs, .lst ys => guardR (decide (xs.length + ys.length ≤ 16777216)) (.ok (.lst (xs ++ ys)))
  | _, _ => .bad
def fSub : Dt → Dt → Res Dt
  | .int i, .int j => .ok (.int (i - j))
  | _, _ => .bad
def small64 (i : Int) : Bool := decide (-(2 ^ 64) < i) && decide (i < 2 ^ 64)
def small63 (i : Int) : Bool := decide (-(2 ^ 63) ≤ i) && decide (i < 2 ^ 63)
def fMul : Dt → Dt → Res Dt
  | .int i, .int j => guardR (small64 i || small64 j) (.ok (.int (i * j)))
  | .lst xs, .int k => guardR (small63 k && decide (xs.length * k.toNat ≤ 16777216)) (.ok (.lst (List.replicate k.toNat xs).flatten))
  | _, _ => .bad
def fDiv : Dt → Dt → Res Dt
  | .int i, .int j => guardR (decide (0 < j) && decide (j < 1073741824)) (.ok (.int (i / j)))
  | _, _ => .bad
def fMod : Dt → Dt → Res Dt
  | .int i, .int j => guardR (decide (0 < j)) (.ok (.int (i % j)))
  | _, _ => .bad
def fPow : Dt → Dt → Res Dt
  | .int i, .int j => guardR (decide (0 ≤ j) && decide (j ≤ 1000000) && small64 i) (.ok (.int (i ^ j.toNat)))
  | _, _ => .bad
def fNeg : Dt → Res Dt
  | .int i => .ok (.int (-i))
  | _ => .bad
def fLt : Dt → Dt → Res Dt
  | .int i, .int j => .ok (.bl (decide (i < j)))
  | _, _ => .bad
def fLe : Dt → Dt → Res Dt
  | .int i, .int j => .ok (.bl (decide (i ≤ j)))
  | _, _ => .bad
def fGt : Dt → Dt → Res Dt
  | .int i, .int j => .ok (.bl (decide (j < i)))
  | _, _ => .bad
def fGe : Dt → Dt → Res Dt
  | .int i, .int j => .ok (.bl (decide (j ≤ i)))
  | _, _ => .bad
def fEq (x y : Dt) : Res Dt := guardR (deep 6 x && deep 6 y) (.ok (.bl (dEq x y)))
def fNe (x y : Dt) : Res Dt := guardR (deep 6 x && deep 6 y) (.ok (.bl (!dEq x y)))

theorem guard_po {K : PySem.W.Frag} {cm : Nat → Value} {E : XK} {n : Nat} {H G : Hp} {b : Bool} {r : Res Dt} {Q : VK} (po : Post K cm E n H G (guardR b r) Q) : b = true ∧ Post K cm E n H G r Q := by
  cases b with
  | true => exact ⟨rfl, po⟩
  | false => exact (show False from po).elim

section
variable {X : Cx} {cm : Nat → Value} {E : L2.St → XK} {n : Nat} {a b c e : Expr} {ma mb mc : Mr} {pos : Pos}
theorem de_add (hn : n ≤ 1) (ha : DE X cm E 0 a ma) (hb : DE X cm E 0 b mb) : DE X cm E n (.BinOp a .Add b pos) (mBin fAdd ma mb) :=
  de_bin (OpR.or op_add op_cat) (fun E x y H G d1 d2 Q s r1 r2 po => by
    cases d1 with
    | int i => cases d2 with
      | int j => exact .inl ⟨i, j, r1, r2, po.scal s rfl rfl⟩
      | _ => exact (show False from po).elim
    | lst xs => cases d2 with
      | lst ys =>
        obtain ⟨p, vs, e1, g1, q1⟩ := r1
        obtain ⟨q, ws, e2, g2, q2⟩ := r2
        obtain ⟨hz, po⟩ := guard_po po
        have hz := of_decide_eq_true hz
        refine .inr ⟨p, q, vs, ws, e1, e2, s _ _ g1, s _ _ g2, by rw [q1.length, q2.length, sizeLine_eq]; exact hz, fun z nz => ?_⟩
        exact po.list hn s nz (q1.append q2)
      | _ => exact (show False from po).elim
    | _ => exact (show False from po).elim) ha hb
theorem de_sub (ha : DE X cm E 0 a ma) (hb : DE X cm E 0 b mb) : DE X cm E n (.BinOp a .Sub b pos) (mBin fSub ma mb) :=
  de_bin op_sub (fun E x y H G d1 d2 Q s r1 r2 po => by
    cases d1 with
    | int i => cases d2 with
      | int j => exact ⟨i, j, r1, r2, po.scal s rfl rfl⟩
      | _ => exact (show False from po).elim
    | _ => exact (show False from po).elim) ha hb
theorem small64_ok {i : Int} (h : small64 i = true) : -(2 ^ 64) < i ∧ i < 2 ^ 64 := by
  unfold small64 at h
  rw [Bool.and_eq_true] at h
  exact ⟨of_decide_eq_true h.1, of_decide_eq_true h.2⟩
theorem de_mul (hn : n ≤ 1) (ha : DE X cm E 0 a ma) (hb : DE X cm E 0 b mb) : DE X cm E n (.BinOp a .Mult b pos) (mBin fMul ma mb) :=
  de_bin (OpR.or op_mul op_rep) (fun E x y H G d1 d2 Q s r1 r2 po => by
    cases d1 with
    | int i => cases d2 with
      | int j =>
        obtain ⟨hz, po⟩ := guard_po po
        refine .inl ⟨i, j, r1, r2, ?_, po.scal s rfl rfl⟩
        rw [Bool.or_eq_true] at hz
        exact hz.imp small64_ok small64_ok
      | _ => exact (show False from po).elim
    | lst xs => cases d2 with
      | int k =>
        obtain ⟨p, vs, e1, g1, q1⟩ := r1
        obtain ⟨hz, po⟩ := guard_po po
        rw [Bool.and_eq_true] at hz
        have hz2 := of_decide_eq_true hz.2
        have h3 := hz.1
        unfold small63 at h3
        rw [Bool.and_eq_true] at h3
        refine .inr ⟨p, k, vs, e1, r2, s _ _ g1, of_decide_eq_true h3.1, of_decide_eq_true h3.2, by rw [q1.length, sizeLine_eq]; exact hz2, fun z nz => ?_⟩
        exact po.list hn s nz (q1.rep _)
      | _ => exact (show False from po).elim
    | _ => exact (show False from po).elim) ha hb
theorem de_fdiv (ha : DE X cm E 0 a ma) (hb : DE X cm E 0 b mb) : DE X cm E n (.BinOp a .FloorDiv b pos) (mBin fDiv ma mb) :=
  de_bin op_fdiv (fun E x y H G d1 d2 Q s r1 r2 po => by
    cases d1 with
    | int i => cases d2 with
      | int j =>
        obtain ⟨hz, po⟩ := guard_po po
        rw [Bool.and_eq_true] at hz
        exact ⟨i, j, r1, r2, ⟨of_decide_eq_true hz.1, of_decide_eq_true hz.2⟩, po.scal s rfl rfl⟩
      | _ => exact (show False from po).elim
    | _ => exact (show False from po).elim) ha hb
theorem de_mod (ha : DE X cm E 0 a ma) (hb : DE X cm E 0 b mb) : DE X cm E n (.BinOp a .Mod b pos) (mBin fMod ma mb) :=
  de_bin op_mod (fun E x y H G d1 d2 Q s r1 r2 po => by
    cases d1 with
    | int i => cases d2 with
      | int j =>
        obtain ⟨hz, po⟩ := guard_po po
        exact ⟨i, j, r1, r2, of_decide_eq_true hz, po.scal s rfl rfl⟩
      | _ => exact (show False from po).elim
    | _ => exact (show False from po).elim) ha hb
theorem de_pow (ha : DE X cm E 0 a ma) (hb : DE X cm E 0 b mb) : DE X cm E n (.BinOp a .Pow b pos) (mBin fPow ma mb) :=
  de_bin op_pow (fun E x y H G d1 d2 Q s r1 r2 po => by
    cases d1 with
    | int i => cases d2 with
      | int j =>
        obtain ⟨hz, po⟩ := guard_po po
        rw [Bool.and_eq_true, Bool.and_eq_true] at hz
        have h3 := small64_ok hz.2
        exact ⟨i, j, r1, r2, ⟨of_decide_eq_true hz.1.1, of_decide_eq_true hz.1.2, by omega⟩, po.scal s rfl rfl⟩
      | _ => exact (show False from po).elim
    | _ => exact (show False from po).elim) ha hb
def mUn (f : Dt → Res Dt) (ma : Mr) : Mr := fun Γ => (ma Γ).bind f
theorem un_ok {K : PySem.W.Frag} {r : V → Hp → VK → Prop} {f : Dt → Res Dt} {σ : L2.St} {H G : Hp} {Γ : Ev} {Q : VK}
    (hf : ∀ (E : XK) x H G d1 Q, Same G H → Rp K G d1 x → Post K cm E n H G (f d1) Q → r x H Q)
    (s : Same G H) (ev : EvR K G Γ σ) (po : Post K cm (E σ) n H G (mUn f ma Γ) Q) : tD K cm E 0 ma σ H (fun x H1 => r x H1 Q) := by
  refine ⟨G, Γ, s, ev, ?_⟩
  unfold mUn at po
  cases hx : ma Γ with
  | bad => rw [hx] at po; exact po.elim
  | exc c => rw [hx] at po; exact po
  | ok x =>
    rw [hx, Res.bind_ok] at po
    intro v H1 G1 L st _ _ ow
    rw [Ow.zero] at ow
    exact hf (E σ) v H1 G1 x Q st.s ow.2 (po.step st)
theorem de_neg (ha : DE X cm E 0 a ma) : DE X cm E n (.UnaryOp .USub a pos) (mUn fNeg ma) :=
  PE.of (pe_un un_neg ha) fun σ H Q ⟨G, Γ, s, ev, po⟩ => un_ok (n := n) (f := fNeg) (r := rU fun i => .int (-i)) (fun E x H G d1 Q s r1 po => by
    cases d1 with
    | int i => exact ⟨i, r1, po.scal s rfl rfl⟩
    | _ => exact (show False from po).elim) s ev po

/-! ### comparisons -/
section
variable {Em : XK} {x y : V} {H G : Hp} {d1 d2 : Dt} {Q : VK}
theorem cmpI {f : Dt → Dt → Res Dt} {g : Int → Int → Bool} (h1 : ∀ i j, f (.int i) (.int j) = .ok (.bl (g i j))) (h2 : ∀ d1 d2, (∀ i j, d1 = .int i → d2 = .int j → False) → f d1 d2 = .bad) :
    ∀ (Em : XK) (x y : V) (H G : Hp) (d1 d2 : Dt) (Q : VK), Same G H → Rp X.K G d1 x → Rp X.K G d2 y → Post X.K cm Em n H G (f d1 d2) Q → (rI0 fun i j => V.bl (g i j)) x y H Q := by
  intro Em x y H G d1 d2 Q s r1 r2 po
  by_cases h : ∃ i j, d1 = .int i ∧ d2 = .int j
  · obtain ⟨i, j, rfl, rfl⟩ := h
    rw [h1] at po
    exact ⟨i, j, r1, r2, po.scal s rfl rfl⟩
  · rw [h2 d1 d2 fun i j e1 e2 => h ⟨i, j, e1, e2⟩] at po
    exact po.elim
theorem badI {f : Dt → Dt → Res Dt} (hf : ∀ d1 d2, (∃ i j, d1 = .int i ∧ d2 = .int j) ∨ f d1 d2 = .bad) : ∀ d1 d2, (∀ i j, d1 = .int i → d2 = .int j → False) → f d1 d2 = .bad := fun d1 d2 h => by
  rcases hf d1 d2 with ⟨i, j, e1, e2⟩ | e
  · exact (h i j e1 e2).elim
  · exact e
end
theorem ltI : ∀ (Em : XK) (x y : V) (H G : Hp) (d1 d2 : Dt) (Q : VK), Same G H → Rp X.K G d1 x → Rp X.K G d2 y → Post X.K cm Em n H G (fLt d1 d2) Q → (rI0 fun i j => V.bl (decide (i < j))) x y H Q :=
  cmpI (fun _ _ => rfl) (badI fun d1 d2 => by cases d1 <;> cases d2 <;> first | exact .inr rfl | exact .inl ⟨_, _, rfl, rfl⟩)
theorem leI : ∀ (Em : XK) (x y : V) (H G : Hp) (d1 d2 : Dt) (Q : VK), Same G H → Rp X.K G d1 x → Rp X.K G d2 y → Post X.K cm Em n H G (fLe d1 d2) Q → (rI0 fun i j => V.bl (decide (i ≤ j))) x y H Q :=
  cmpI (fun _ _ => rfl) (badI fun d1 d2 => by cases d1 <;> cases d2 <;> first | exact .inr rfl | exact .inl ⟨_, _, rfl, rfl⟩)
theorem gtI : ∀ (Em : XK) (x y : V) (H G : Hp) (d1 d2 : Dt) (Q : VK), Same G H → Rp X.K G d1 x → Rp X.K G d2 y → Post X.K cm Em n H G (fGt d1 d2) Q → (rI0 fun i j => V.bl (decide (j < i))) x y H Q :=
  cmpI (fun _ _ => rfl) (badI fun d1 d2 => by cases d1 <;> cases d2 <;> first | exact .inr rfl | exact .inl ⟨_, _, rfl, rfl⟩)
theorem geI : ∀ (Em : XK) (x y : V) (H G : Hp) (d1 d2 : Dt) (Q : VK), Same G H → Rp X.K G d1 x → Rp X.K G d2 y → Post X.K cm Em n H G (fGe d1 d2) Q → (rI0 fun i j => V.bl (decide (j ≤ i))) x y H Q :=
  cmpI (fun _ _ => rfl) (badI fun d1 d2 => by cases d1 <;> cases d2 <;> first | exact .inr rfl | exact .inl ⟨_, _, rfl, rfl⟩)
theorem eqI : ∀ (Em : XK) (x y : V) (H G : Hp) (d1 d2 : Dt) (Q : VK), Same G H → Rp X.K G d1 x → Rp X.K G d2 y → Post X.K cm Em n H G (fEq d1 d2) Q → rEqD X.K x y H Q := fun Em x y H G d1 d2 Q s r1 r2 po => by
  obtain ⟨hz, po⟩ := guard_po po
  rw [Bool.and_eq_true] at hz
  exact ⟨py d1, py d2, dp_of s hz.1 r1, dp_of s hz.2 r2, shaped_deep hz.1, shaped_deep hz.2, po.scal s rfl rfl⟩
theorem neI : ∀ (Em : XK) (x y : V) (H G : Hp) (d1 d2 : Dt) (Q : VK), Same G H → Rp X.K G d1 x → Rp X.K G d2 y → Post X.K cm Em n H G (fNe d1 d2) Q → rNeD X.K x y H Q := fun Em x y H G d1 d2 Q s r1 r2 po => by
  obtain ⟨hz, po⟩ := guard_po po
  rw [Bool.and_eq_true] at hz
  exact ⟨py d1, py d2, dp_of s hz.1 r1, dp_of s hz.2 r2, shaped_deep hz.1, shaped_deep hz.2, po.scal s rfl rfl⟩
variable (ha : DE X cm E 0 a ma) (hb : DE X cm E 0 b mb)
include ha hb
theorem de_lt : DE X cm E n (.Compare a [.Lt] [b] pos) (mBin fLt ma mb) := de_cmp op_lt ltI ha hb (nomark _)
theorem de_le : DE X cm E n (.Compare a [.LtE] [b] pos) (mBin fLe ma mb) := de_cmp op_le leI ha hb (nomark _)
theorem de_gt : DE X cm E n (.Compare a [.Gt] [b] pos) (mBin fGt ma mb) := de_cmp op_gt gtI ha hb (nomark _)
theorem de_ge : DE X cm E n (.Compare a [.GtE] [b] pos) (mBin fGe ma mb) := de_cmp op_ge geI ha hb (nomark _)
theorem de_eq (hu : X.A.units + 64 < cLine) : DE X cm E n (.Compare a [.Eq] [b] pos) (mBin fEq ma mb) := de_cmp (op_eqD hu) eqI ha hb (nomark _)
theorem de_ne (hu : X.A.units + 64 < cLine) : DE X cm E n (.Compare a [.NotEq] [b] pos) (mBin fNe ma mb) := de_cmp (op_neD hu) neI ha hb (nomark _)
theorem dt_lt : DT X cm E (.Compare a [.Lt] [b] pos) (mTest (mBin fLt ma mb)) := dt_cmp op_lt ltI ha hb (nomark _)
theorem dt_le : DT X cm E (.Compare a [.LtE] [b] pos) (mTest (mBin fLe ma mb)) := dt_cmp op_le leI ha hb (nomark _)
theorem dt_gt : DT X cm E (.Compare a [.Gt] [b] pos) (mTest (mBin fGt ma mb)) := dt_cmp op_gt gtI ha hb (nomark _)
theorem dt_ge : DT X cm E (.Compare a [.GtE] [b] pos) (mTest (mBin fGe ma mb)) := dt_cmp op_ge geI ha hb (nomark _)
theorem dt_eq (hu : X.A.units + 64 < cLine) : DT X cm E (.Compare a [.Eq] [b] pos) (mTest (mBin fEq ma mb)) := dt_cmp (op_eqD hu) eqI ha hb (nomark _)
theorem dt_ne (hu : X.A.units + 64 < cLine) : DT X cm E (.Compare a [.NotEq] [b] pos) (mTest (mBin fNe ma mb)) := dt_cmp (op_neD hu) neI ha hb (nomark _)
omit ha hb
end
end DL

set_option Elab.async false
set_option linter.all false
set_option maxRecDepth 100000
set_option maxHeartbeats 1000000
namespace DL
open PySem PySem.Spec PyProof.Rows L2

section
variable {K : PySem.W.Frag} {H G H1 G1 H' G' : Hp} {n : Nat}
theorem Ows.there {P : Dt → V → List Addr → Prop} (h : ∀ d v L, P d v L → ∀ a ∈ L, ∃ o, H a = some o) : ∀ {ds : List Dt} {vs : List V} {L : List Addr}, Ows P ds vs L → ∀ a ∈ L, ∃ o, H a = some o
  | [], _, _, r, a, ha => by rw [r.2] at ha; cases ha
  | d :: ds, _, _, ⟨v, r, L1, L2, e1, e2, p, q⟩, a, ha => by
    rw [e2] at ha
    rcases List.mem_append.mp ha with ha | ha
    · exact h _ _ _ p a ha
    · exact Ows.there h q a ha
theorem Ows.length {P : Dt → V → List Addr → Prop} : ∀ {ds : List Dt} {vs : List V} {L : List Addr}, Ows P ds vs L → vs.length = ds.length
  | [], _, _, r => by rw [r.1]; rfl
  | d :: ds, _, _, ⟨v, r, L1, L2, e1, e2, p, q⟩ => by rw [e1, List.length_cons, List.length_cons, Ows.length q]
theorem Ows.snoc {P : Dt → V → List Addr → Prop} {d : Dt} {v : V} {L2 : List Addr} (p : P d v L2) : ∀ {ds : List Dt} {vs : List V} {L : List Addr}, Ows P ds vs L → Ows P (ds ++ [d]) (vs ++ [v]) (L ++ L2)
  | [], _, _, r => by rw [r.1, r.2]; exact ⟨v, [], L2, [], rfl, by simp, p, rfl, rfl⟩
  | d' :: ds, _, _, ⟨v', r, L1, L3, e1, e2, p', q⟩ => by
    rw [e1, e2]
    exact ⟨v', r ++ [v], L1, L3 ++ L2, rfl, by simp, p', Ows.snoc p q⟩
/-- what was fresh and owned stays apart behind a later step -/
theorem apart (st : Stp H1 G1 H' G') {L : List Addr} (hl : ∀ a ∈ L, ∃ o, H1 a = some o) (hg : ∀ a ∈ L, G1 a = none) : ∀ a ∈ L, G' a = none := fun a ha => by
  cases e : G' a with
  | none => rfl
  | some o =>
    rcases st.new a o e with ⟨u, q⟩ | q
    · rw [hg a ha] at q; cases q
    · obtain ⟨u, z⟩ := hl a ha
      rw [q] at z; cases z
/-- two owned parts, the one made behind the other -/
theorem two_nd {L1 L2 : List Addr} (n1 : L1.Nodup) (n2 : L2.Nodup) (h1 : ∀ a ∈ L1, ∃ o, H1 a = some o) (h2 : ∀ a ∈ L2, H1 a = none) : (L1 ++ L2).Nodup :=
  List.nodup_append.mpr ⟨n1, n2, fun a ha b hb e => by
    obtain ⟨o, z⟩ := h1 a ha
    rw [e, h2 b hb] at z; cases z⟩
/-- the widest view that a step from (H, G) may leave -/
def wide (H G H' : Hp) : Hp := fun a => if (G a).isSome = true ∨ (H a).isSome = false then H' a else none
theorem wide_of {a : Addr} {o : HO} (h : (∃ u, G a = some u) ∨ H a = none) (e : H' a = some o) : wide H G H' a = some o := by
  unfold wide
  rw [if_pos]
  · exact e
  · rcases h with ⟨u, q⟩ | q
    · left; rw [q]; rfl
    · right; rw [q]; rfl
theorem wide_inv {a : Addr} {o : HO} (e : wide H G H' a = some o) : ((∃ u, G a = some u) ∨ H a = none) ∧ H' a = some o := by
  unfold wide at e
  split at e
  · rename_i h
    refine ⟨?_, e⟩
    rcases h with q | q
    · exact .inl (Option.isSome_iff_exists.mp q)
    · exact .inr (by cases z : H a with
        | none => rfl
        | some u => rw [z] at q; cases q)
  · cases e
theorem Stp.wide (st : Stp H G H' G') : Stp H G H' (DL.wide H G H') ∧ Same G' (DL.wide H G H') :=
  have s : Same G' (DL.wide H G H') := fun a o e => wide_of (st.new a o e) (st.s _ _ e)
  ⟨⟨st.h, st.g.trans s, fun a o e => (wide_inv e).2, fun a o e => (wide_inv e).1⟩, s⟩
/-- owned, then shared -/
theorem Ow.share {d : Dt} {v : V} {L : List Addr} (st : Stp H G H' G') (fr : ∀ a ∈ L, H a = none) (o : Ow K H' G' n d v L) : Rp K (wide H G H') d v :=
  o.rp st.wide.2 fun a ha u e => wide_of (.inr (fr a ha)) e
theorem Post.up {cm : Nat → Value} {E : XK} {r : Res Dt} {Q : VK} (po : Post K cm E 0 H G r Q) : Post K cm E n H G r Q := by
  cases r with
  | bad => exact po
  | exc c => exact po
  | ok d => exact fun v H' G' L st nd fr o => po v H' (wide H G H') [] st.wide.1 List.nodup_nil (fun a ha => nomatch ha) (by rw [Ow.zero]; exact ⟨rfl, o.share st fun a ha => (fr a ha).1⟩)
end
/-- .. of a part that is asked shared: Post at n from Post at 0 -/
theorem de_zero {X : Cx} {cm : Nat → Value} {E : L2.St → XK} {n : Nat} {e : Expr} {m : Mr} (h : DE X cm E n e m) : DE X cm E 0 e m :=
  PE.of h fun σ H Q ⟨G, Γ, s, ev, po⟩ => ⟨G, Γ, s, ev, po.up⟩
def mDeep (k : Nat) (m : Mr) : Mr := fun Γ => (m Γ).bind fun d => guardR (deep k d) (.ok d)
theorem Post.deepen {K : PySem.W.Frag} {cm : Nat → Value} {E : XK} {k n : Nat} {H G : Hp} {r : Res Dt} {Q : VK} (hk : k ≤ n) (po : Post K cm E n H G (r.bind fun d => guardR (deep k d) (.ok d)) Q) : Post K cm E k H G r Q := by
  cases r with
  | bad => exact po
  | exc c => exact po
  | ok d =>
    obtain ⟨hd, po⟩ := guard_po po
    exact fun v H' G' L st nd fr o => po v H' G' L st nd fr (o.deep hd hk)
theorem de_deep {X : Cx} {cm : Nat → Value} {E : L2.St → XK} {k n : Nat} {e : Expr} {m : Mr} (hk : k ≤ n) (h : DE X cm E k e m) : DE X cm E n e (mDeep k m) :=
  PE.of h fun σ H Q ⟨G, Γ, s, ev, po⟩ => ⟨G, Γ, s, ev, po.deepen hk⟩

section
variable {X : Cx} {cm : Nat → Value} {E : L2.St → XK} {n : Nat} {a b c e : Expr} {es : List Expr} {ma mb mc m : Mr} {ms : Ev → Res (List Dt)} {pos : Pos}

/-! ### argument lists, displays -/
def mNil : Ev → Res (List Dt) := fun _ => .ok []
def mCons (m : Mr) (ms : Ev → Res (List Dt)) : Ev → Res (List Dt) := fun Γ => (m Γ).bind fun d => (ms Γ).bind fun ds => .ok (d :: ds)
theorem da_nil : DA X cm E n [] mNil :=
  PA.of pa_nil fun σ H Q ⟨G, Γ, s, ev, po⟩ => po [] H G [] (.refl s) List.nodup_nil (fun a ha => nomatch ha) ⟨rfl, rfl⟩
theorem da_cons (h : DE X cm E n e m) (hs : DA X cm E n es ms) (hq : starEach (e :: es) X.env = (false, eval e X.env) :: starEach es X.env := by rfl) : DA X cm E n (e :: es) (mCons m ms) := by
  refine PA.of (pa_cons h hs hq) fun σ H Q ⟨G, Γ, s, ev, po⟩ => ⟨G, Γ, s, ev, ?_⟩
  unfold mCons at po
  cases hx : m Γ with
  | bad => rw [hx] at po; exact po.elim
  | exc c => rw [hx] at po; exact po
  | ok d =>
    rw [hx, Res.bind_ok] at po
    intro v H1 G1 L1 st nd fr ow
    refine ⟨G1, Γ, st.s, ev.mono st.g, ?_⟩
    cases hy : ms Γ with
    | bad => rw [hy] at po; exact po.elim
    | exc c => rw [hy] at po; exact fun H' t => po H' (st.h.trans t)
    | ok ds =>
      rw [hy, Res.bind_ok] at po
      intro vs H2 G2 L2 st2 nd2 fr2 ow2
      refine po (v :: vs) H2 G2 (L1 ++ L2) (st.trans st2) (two_nd nd nd2 ow.there fun a ha => (fr2 a ha).1) (fun a ha => ?_) ⟨v, vs, L1, L2, rfl, rfl, ow.mono st2.h st2.g, ow2⟩
      rcases List.mem_append.mp ha with ha | ha
      · exact ⟨(fr a ha).1, apart st2 ow.there (fun b hb => (fr b hb).2) a ha⟩
      · exact ⟨none_back st.h (fr2 a ha).1, (fr2 a ha).2⟩
def mLst (ms : Ev → Res (List Dt)) : Mr := fun Γ => (ms Γ).bind fun ds => guardR (decide (ds.length ≤ 16777216)) (.ok (.lst ds))
def mTup (ms : Ev → Res (List Dt)) : Mr := fun Γ => (ms Γ).bind fun ds => guardR (decide (ds.length ≤ 16777216)) (.ok (.tup ds))
theorem guard_pos {K : PySem.W.Frag} {cm : Nat → Value} {E : XK} {n : Nat} {H G : Hp} {b : Bool} {r : Res (List Dt)} {Q : List V → Hp → Prop} (po : Posts K cm E n H G (guardR b r) Q) : b = true ∧ Posts K cm E n H G r Q := by
  cases b with
  | true => exact ⟨rfl, po⟩
  | false => exact (show False from po).elim
/-- a new object laid on owned items -/
theorem Post.lay {K : PySem.W.Frag} {E : XK} {H G H1 G1 : Hp} {ds : List Dt} {vs : List V} {L : List Addr} {p : Addr} {Q : VK} (po : Post K cm E (n + 1) H G (.ok (.lst ds)) Q) (st : Stp H G H1 G1) (nd : L.Nodup) (fr : ∀ a ∈ L, H a = none ∧ G1 a = none)
    (ow : Ows (Ow K H1 G1 n) ds vs L) (np : H1 p = none) : Q (.ref p) (upd H1 p (.lst vs)) := by
  have hth := Ows.there (H := H1) (fun d v L o => Ow.there o) ow
  have hpL : p ∉ L := fun h => by obtain ⟨o, e⟩ := hth p h; rw [np] at e; cases e
  have st2 : Stp H1 G1 (upd H1 p (.lst vs)) G1 := .newH st.s np _
  refine po (.ref p) _ G1 (p :: L) (st.trans st2) (List.nodup_cons.mpr ⟨hpL, nd⟩) (fun a ha => ?_) ⟨p, vs, L, rfl, upd_same, rfl, ow.mono fun d v L o => o.mono st2.h st2.g⟩
  rcases List.mem_cons.mp ha with rfl | ha
  · exact ⟨none_back st.h np, none_back st.s np⟩
  · exact fr a ha
theorem Post.layT {K : PySem.W.Frag} {E : XK} {H G H1 G1 : Hp} {ds : List Dt} {vs : List V} {L : List Addr} {p : Addr} {Q : VK} (po : Post K cm E (n + 1) H G (.ok (.tup ds)) Q) (st : Stp H G H1 G1) (nd : L.Nodup) (fr : ∀ a ∈ L, H a = none ∧ G1 a = none)
    (ow : Ows (Ow K H1 G1 n) ds vs L) (np : H1 p = none) : Q (.ref p) (upd H1 p (.tup vs)) := by
  have hth := Ows.there (H := H1) (fun d v L o => Ow.there o) ow
  have hpL : p ∉ L := fun h => by obtain ⟨o, e⟩ := hth p h; rw [np] at e; cases e
  have st2 : Stp H1 G1 (upd H1 p (.tup vs)) G1 := .newH st.s np _
  refine po (.ref p) _ G1 (p :: L) (st.trans st2) (List.nodup_cons.mpr ⟨hpL, nd⟩) (fun a ha => ?_) ⟨p, vs, L, rfl, upd_same, rfl, ow.mono fun d v L o => o.mono st2.h st2.g⟩
  rcases List.mem_cons.mp ha with rfl | ha
  · exact ⟨none_back st.h np, none_back st.s np⟩
  · exact fr a ha
theorem de_lst (h : DA X cm E n es ms) : DE X cm E (n + 1) (.List es pos) (mLst ms) := by
  refine PE.of (pe_lst h) fun σ H Q ⟨G, Γ, s, ev, po⟩ => ⟨G, Γ, s, ev, ?_⟩
  unfold mLst at po
  cases hx : ms Γ with
  | bad => rw [hx] at po; exact po.elim
  | exc c => rw [hx] at po; exact po
  | ok ds =>
    rw [hx, Res.bind_ok] at po
    obtain ⟨hz, po⟩ := guard_po po
    intro vs H1 G1 L st nd fr ow
    exact ⟨by rw [ow.length, sizeLine_eq]; exact of_decide_eq_true hz, fun p np => po.lay st nd fr ow np⟩
theorem de_tup {k : Nat} (h : DA X cm E n es ms) : DE X cm E (n + 1) (.Tuple es k pos) (mTup ms) := by
  refine PE.of (pe_tup h) fun σ H Q ⟨G, Γ, s, ev, po⟩ => ⟨G, Γ, s, ev, ?_⟩
  unfold mTup at po
  cases hx : ms Γ with
  | bad => rw [hx] at po; exact po.elim
  | exc c => rw [hx] at po; exact po
  | ok ds =>
    rw [hx, Res.bind_ok] at po
    obtain ⟨hz, po⟩ := guard_po po
    intro vs H1 G1 L st nd fr ow
    exact ⟨by rw [ow.length, sizeLine_eq]; exact of_decide_eq_true hz, fun p np => po.layT st nd fr ow np⟩

/-! ### items and slices -/
def fIx : Dt → Dt → Res Dt
  | .lst ds, .int i => match atI ds i with
    | some d => .ok d
    | none => .bad
  | .tup ds, .int i => match atI ds i with
    | some d => .ok d
    | none => .bad
  | .scr ns, .int i => match atI ns i with
    | some d => .ok (.int d)
    | none => .bad
  | _, _ => .bad
theorem atI_map {α β : Type} (f : α → β) (xs : List α) (i : Int) : atI (xs.map f) i = (atI xs i).map f := by
  unfold atI
  rw [List.length_map]
  cases ixN xs.length i with
  | none => rfl
  | some j => rw [Option.bind_some, Option.bind_some, List.getElem?_map]
theorem de_ix (ha : DE X cm E 0 a ma) (hb : DE X cm E 0 b mb) (hs : PlainIx b := by exact fun _ _ => rfl) : DE X cm E 0 (.Subscript a b pos) (mBin fIx ma mb) :=
  PE.of (pe_ix ix_seq ha hb hs) fun σ H Q ⟨G, Γ, s, ev, po⟩ => bin_ok (n := 0) (fun E x y H G d1 d2 Q s r1 r2 po => by
    cases d1 with
    | lst ds => cases d2 with
      | int i =>
        obtain ⟨p, vs, e1, g1, q1⟩ := r1
        have po' : Post X.K cm E 0 H G (match atI ds i with | some d => .ok d | none => .bad) Q := po
        cases hd : atI ds i with
        | none => rw [hd] at po'; exact po'.elim
        | some d =>
          rw [hd] at po'
          obtain ⟨v, h1, h2⟩ := atI_rps q1 hd
          exact .inl ⟨p, vs, i, v, e1, r2, .inl (.inl (s _ _ g1)), h1, po'.here s h2⟩
      | _ => exact (show False from po).elim
    | tup ds => cases d2 with
      | int i =>
        obtain ⟨p, vs, e1, g1, q1⟩ := r1
        have po' : Post X.K cm E 0 H G (match atI ds i with | some d => .ok d | none => .bad) Q := po
        cases hd : atI ds i with
        | none => rw [hd] at po'; exact po'.elim
        | some d =>
          rw [hd] at po'
          obtain ⟨v, h1, h2⟩ := atI_rps q1 hd
          exact .inr (.inl ⟨p, vs, i, v, e1, r2, .inl (.inl (s _ _ g1)), h1, po'.here s h2⟩)
      | _ => exact (show False from po).elim
    | scr ns => cases d2 with
      | int i =>
        obtain ⟨p, e1, g1⟩ := r1
        have po' : Post X.K cm E 0 H G (match atI ns i with | some d => .ok (.int d) | none => .bad) Q := po
        cases hd : atI ns i with
        | none => rw [hd] at po'; exact po'.elim
        | some d =>
          rw [hd] at po'
          exact .inl ⟨p, ns.map V.int, i, .int d, e1, r2, s.seq g1, by rw [atI_map, hd]; rfl, po'.here s rfl⟩
      | _ => exact (show False from po).elim
    | _ => exact (show False from po).elim) s ev po
/-- xs[lo:hi] -/
def cutD (xs : List Dt) (lo hi : Option Int) : List Dt := (xs.drop (HT.sIx xs.length 0 lo)).take (HT.sIx xs.length xs.length hi - HT.sIx xs.length 0 lo)
def fSl (x : Dt) (lo hi : Option Int) : Res Dt := match x with
  | .lst ds => .ok (.lst (cutD ds lo hi))
  | _ => .bad
abbrev Mo := Ev → Res (Option Int)
def oNone : Mo := fun _ => .ok none
def toI (r : Res Dt) : Res (Option Int) := r.bind fun d => match d with
  | .int i => .ok (some i)
  | _ => .bad
def oSome (m : Mr) : Mo := fun Γ => toI (m Γ)
def mSl (m : Mr) (lo hi : Mo) : Mr := fun Γ => (m Γ).bind fun x => (lo Γ).bind fun l => (hi Γ).bind fun h => fSl x l h
def PostO (cm : Nat → Value) (E : XK) (H G : Hp) (r : Res (Option Int)) (Q : Option Int → Hp → Prop) : Prop := match r with
  | .ok b => ∀ H' G', Stp H G H' G' → Q b H'
  | .exc c => ∀ H', Same H H' → E (cm c) none H'
  | .bad => False
def tDO (K : PySem.W.Frag) (cm : Nat → Value) (E : L2.St → XK) (m : Mo) : TO := fun σ H Q => ∃ G Γ, Same G H ∧ EvR K G Γ σ ∧ PostO cm (E σ) H G (m Γ) Q
def DO (X : Cx) (cm : Nat → Value) (E : L2.St → XK) (e : Option Expr) (m : Mo) : Prop := PO X e (tDO X.K cm E m)
theorem PO.of {X : Cx} {e : Option Expr} {t t' : TO} (h : PO X e t) (w : ∀ σ H Q, t' σ H Q → t σ H Q) : PO X e t' := ⟨fun pins s σ H Q I q => h.run pins s σ H Q I (w σ H Q q)⟩
theorem do_none : DO X cm E none oNone := PO.of po_none fun σ H Q ⟨G, Γ, s, ev, po⟩ => po H G (.refl s)
theorem do_some (h : DE X cm E 0 e m) : DO X cm E (some e) (oSome m) := PO.of (po_some h) fun σ H Q ⟨G, Γ, s, ev, po⟩ => by
  refine ⟨G, Γ, s, ev, ?_⟩
  unfold oSome toI at po
  cases hx : m Γ with
  | bad => rw [hx] at po; exact po.elim
  | exc c => rw [hx] at po; exact po
  | ok d =>
    rw [hx, Res.bind_ok] at po
    cases d with
    | int i =>
      intro v H' G' L st nd fr ow
      rw [Ow.zero] at ow
      exact ⟨i, ow.2, po H' G' st⟩
    | _ => exact (show False from po).elim
theorem cut_rps {K : PySem.W.Frag} {G : Hp} {ds : List Dt} {vs : List V} (r : Rps K G ds vs) (lo hi : Option Int) : Rps K G (cutD ds lo hi) (cutV vs lo hi) := by
  unfold cutD cutV
  rw [r.length]
  exact (r.drop _).take _
theorem de_sl {lo hi : Option Expr} {ml mh : Mo} {p2 : Pos} (hn : n ≤ 1) (ha : DE X cm E 0 a ma) (hl : DO X cm E lo ml) (hh : DO X cm E hi mh) : DE X cm E n (.Subscript a (.Slice lo hi none p2) pos) (mSl ma ml mh) := by
  refine PE.of (pe_slice sl_list ha hl hh) fun σ H Q ⟨G, Γ, s, ev, po⟩ => ⟨G, Γ, s, ev, ?_⟩
  unfold mSl at po
  cases hx : ma Γ with
  | bad => rw [hx] at po; exact po.elim
  | exc c => rw [hx] at po; exact po
  | ok d =>
    rw [hx, Res.bind_ok] at po
    intro v H1 G1 L1 st nd fr ow
    rw [Ow.zero] at ow
    refine ⟨G1, Γ, st.s, ev.mono st.g, ?_⟩
    have po1 := po.step st
    cases hy : ml Γ with
    | bad => rw [hy] at po1; exact po1.elim
    | exc c => rw [hy] at po1; exact po1
    | ok l =>
      rw [hy, Res.bind_ok] at po1
      intro H2 G2 st2
      refine ⟨G2, Γ, st2.s, (ev.mono st.g).mono st2.g, ?_⟩
      have po2 := po1.step st2
      cases hw : mh Γ with
      | bad => rw [hw] at po2; exact po2.elim
      | exc c => rw [hw] at po2; exact po2
      | ok h =>
        rw [hw, Res.bind_ok] at po2
        intro H3 G3 st3
        have po3 := po2.step st3
        cases d with
        | lst ds =>
          obtain ⟨p, vs, e1, g1, q1⟩ := ow.2
          refine ⟨p, vs, e1, .inl (.inl (st3.s _ _ (st3.g _ _ (st2.g _ _ g1)))), fun z nz => ?_⟩
          exact po3.list hn st3.s nz (((cut_rps q1 l h).mono st2.g).mono st3.g)
        | _ => exact (show False from po3).elim
def fRev : Dt → Res Dt
  | .lst ds => .ok (.lst ds.reverse)
  | _ => .bad
theorem de_rev {k : Nat} {p1 p2 p3 : Pos} (hn : n ≤ 1) (ha : DE X cm E 0 a ma) : DE X cm E n (.Subscript a (.Slice none none (some (.UnaryOp .USub (.Constant (.int 1) k p1) p2)) p3) pos) (mUn fRev ma) :=
  PE.of (pe_revL ha) fun σ H Q ⟨G, Γ, s, ev, po⟩ => un_ok (n := n) (f := fRev) (r := fun x H1 Q => ∃ a xs, x = .ref a ∧ SqL X.K H1 a xs ∧ ∀ p, H1 p = none → Q (.ref p) (upd H1 p (.lst xs.reverse))) (fun E x H G d1 Q s r1 po => by
    cases d1 with
    | lst ds =>
      obtain ⟨p, vs, e1, g1, q1⟩ := r1
      exact ⟨p, vs, e1, .inl (.inl (s _ _ g1)), fun z nz => po.list hn s nz q1.reverse⟩
    | _ => exact (show False from po).elim) s ev po

/-! ### is, in -/
def fIsN : Dt → Res Dt
  | .non => .ok (.bl true)
  | _ => .ok (.bl false)
def fNotN : Dt → Res Dt
  | .non => .ok (.bl false)
  | _ => .ok (.bl true)
theorem rp_non {K : PySem.W.Frag} {G : Hp} {d : Dt} {v : V} (r : Rp K G d v) : (d = .non ∧ v = .non) ∨ (d ≠ .non ∧ v ≠ .non) := by
  cases d with
  | non => exact .inl ⟨rfl, r⟩
  | bl b => exact .inr ⟨fun q => (nomatch q), fun q => by rw [show v = _ from r] at q; cases q⟩
  | int b => exact .inr ⟨fun q => (nomatch q), fun q => by rw [show v = _ from r] at q; cases q⟩
  | lst b => obtain ⟨a, vs, e, _⟩ := r; exact .inr ⟨fun q => (nomatch q), fun q => by rw [e] at q; cases q⟩
  | tup b => obtain ⟨a, vs, e, _⟩ := r; exact .inr ⟨fun q => (nomatch q), fun q => by rw [e] at q; cases q⟩
  | scr b => obtain ⟨a, e, _⟩ := r; exact .inr ⟨fun q => (nomatch q), fun q => by rw [e] at q; cases q⟩
theorem de_isN {j : Nat} {pos' : Pos} (ha : DE X cm E 0 a ma) : DE X cm E n (.Compare a [.Is] [.Constant .none j pos'] pos) (mUn fIsN ma) :=
  PE.of (pe_cmp (pc_isN ha)) fun σ H Q ⟨G, Γ, s, ev, po⟩ => un_ok (n := n) (f := fIsN) (r := fun x H1 Q => Q (.bl (decide (x = .non))) H1) (fun E x H G d1 Q s r1 po => by
    rcases rp_non r1 with ⟨rfl, rfl⟩ | ⟨h1, h2⟩
    · exact po.scal s rfl rfl
    · rw [decide_eq_false h2]
      have e : fIsN d1 = .ok (.bl false) := by cases d1 <;> first | rfl | exact absurd rfl h1
      rw [e] at po
      exact po.scal s rfl rfl) s ev po
theorem de_notN {j : Nat} {pos' : Pos} (ha : DE X cm E 0 a ma) : DE X cm E n (.Compare a [.IsNot] [.Constant .none j pos'] pos) (mUn fNotN ma) :=
  PE.of (pe_cmp (pc_notN ha)) fun σ H Q ⟨G, Γ, s, ev, po⟩ => un_ok (n := n) (f := fNotN) (r := fun x H1 Q => Q (.bl (!decide (x = .non))) H1) (fun E x H G d1 Q s r1 po => by
    rcases rp_non r1 with ⟨rfl, rfl⟩ | ⟨h1, h2⟩
    · exact po.scal s rfl rfl
    · rw [decide_eq_false h2]
      have e : fNotN d1 = .ok (.bl true) := by cases d1 <;> first | rfl | exact absurd rfl h1
      rw [e] at po
      exact po.scal s rfl rfl) s ev po
theorem dt_of_cmp {op : CmpOp} {r : Mr} (h : DE X cm E 0 (.Compare a [op] [b] pos) r) (pc : ∀ t, PE X (.Compare a [op] [b] pos) t → True) : True := trivial
def fIsB : Dt → Dt → Res Dt
  | .bl i, .bl j => .ok (.bl (decide (i = j)))
  | _, _ => .bad
def fNotB : Dt → Dt → Res Dt
  | .bl i, .bl j => .ok (.bl (!decide (i = j)))
  | _, _ => .bad
theorem isBI : ∀ (Em : XK) (x y : V) (H G : Hp) (d1 d2 : Dt) (Q : VK), Same G H → Rp X.K G d1 x → Rp X.K G d2 y → Post X.K cm Em n H G (fIsB d1 d2) Q → rIsB x y H Q := fun Em x y H G d1 d2 Q s r1 r2 po => by
  cases d1 with
  | bl i => cases d2 with
    | bl j => exact ⟨i, j, r1, r2, po.scal s rfl rfl⟩
    | _ => exact (show False from po).elim
  | _ => exact (show False from po).elim
theorem notBI : ∀ (Em : XK) (x y : V) (H G : Hp) (d1 d2 : Dt) (Q : VK), Same G H → Rp X.K G d1 x → Rp X.K G d2 y → Post X.K cm Em n H G (fNotB d1 d2) Q → rNotB x y H Q := fun Em x y H G d1 d2 Q s r1 r2 po => by
  cases d1 with
  | bl i => cases d2 with
    | bl j => exact ⟨i, j, r1, r2, po.scal s rfl rfl⟩
    | _ => exact (show False from po).elim
  | _ => exact (show False from po).elim
def isI : Dt → Bool
  | .int _ => true
  | _ => false
def fIn : Dt → Dt → Res Dt
  | x, .lst ds => guardR (deep 6 x && deep 6 (.lst ds)) (.ok (.bl (ds.any fun z => dEq z x)))
  | x, .tup ds => guardR (isI x && ds.all isI) (.ok (.bl (ds.any fun z => dEq z x)))
  | _, _ => .bad
def fNotIn : Dt → Dt → Res Dt
  | x, .lst ds => guardR (deep 6 x && deep 6 (.lst ds)) (.ok (.bl (!ds.any fun z => dEq z x)))
  | x, .tup ds => guardR (isI x && ds.all isI) (.ok (.bl (!ds.any fun z => dEq z x)))
  | _, _ => .bad
theorem any_pys (x : Dt) : ∀ ds : List Dt, (pys ds).any (fun z => PyData.eqv z (py x)) = ds.any fun z => dEq z x
  | [] => rfl
  | d :: ds => by rw [pys, List.any_cons, List.any_cons, any_pys x ds]; rfl
theorem isI_of {K : PySem.W.Frag} {G : Hp} {d : Dt} {v : V} (h : isI d = true) (r : Rp K G d v) : ∃ i, d = .int i ∧ v = .int i := by
  cases d with
  | int i => exact ⟨i, rfl, r⟩
  | _ => simp [isI] at h
theorem ints_in {K : PySem.W.Frag} {G : Hp} {i : Int} : ∀ {ds : List Dt} {vs : List V}, ds.all isI = true → Rps K G ds vs → vs.all flatV = true ∧ inV (.int i) vs = ds.any fun z => dEq z (.int i)
  | [], _, _, r => by rw [show _ = [] from r]; exact ⟨rfl, rfl⟩
  | d :: ds, _, h, ⟨v, r, e, g, q⟩ => by
    rw [List.all_cons, Bool.and_eq_true] at h
    obtain ⟨j, rfl, rfl⟩ := isI_of h.1 g
    obtain ⟨h1, h2⟩ := ints_in (i := i) h.2 q
    rw [e]
    refine ⟨by rw [List.all_cons, h1]; rfl, ?_⟩
    unfold inV at h2 ⊢
    rw [List.any_cons, List.any_cons, h2]
    congr 1
theorem inI (neg : Bool) : True := trivial
theorem inE : ∀ (Em : XK) (x y : V) (H G : Hp) (d1 d2 : Dt) (Q : VK), Same G H → Rp X.K G d1 x → Rp X.K G d2 y → Post X.K cm Em n H G (fIn d1 d2) Q → (rInD X.K x y H Q ∨ rIn X.K false x y H Q) := fun Em x y H G d1 d2 Q s r1 r2 po => by
  cases d2 with
  | lst ds =>
    obtain ⟨hz, po⟩ := guard_po po
    rw [Bool.and_eq_true] at hz
    refine .inl ⟨py d1, pys ds, dp_of s hz.1 r1, by have q := dp_of s hz.2 r2; rwa [py] at q, shaped_deep hz.1, by have q := shaped_deep hz.2; rwa [py] at q, ?_⟩
    rw [any_pys]
    exact po.scal s rfl rfl
  | tup ds =>
    obtain ⟨hz, po⟩ := guard_po po
    rw [Bool.and_eq_true] at hz
    obtain ⟨i, rfl, rfl⟩ := isI_of hz.1 r1
    obtain ⟨p, vs, e, g, q⟩ := r2
    obtain ⟨h1, h2⟩ := ints_in (i := i) hz.2 q
    refine .inr ⟨p, vs, e, .inr (.inl (.inl (s _ _ g))), rfl, h1, ?_⟩
    show Q (.bl (inV (.int i) vs)) H
    rw [h2]
    exact po.scal s rfl rfl
  | _ => cases d1 <;> exact (show False from po).elim
theorem notInE : ∀ (Em : XK) (x y : V) (H G : Hp) (d1 d2 : Dt) (Q : VK), Same G H → Rp X.K G d1 x → Rp X.K G d2 y → Post X.K cm Em n H G (fNotIn d1 d2) Q → (rNotInD X.K x y H Q ∨ rIn X.K true x y H Q) := fun Em x y H G d1 d2 Q s r1 r2 po => by
  cases d2 with
  | lst ds =>
    obtain ⟨hz, po⟩ := guard_po po
    rw [Bool.and_eq_true] at hz
    refine .inl ⟨py d1, pys ds, dp_of s hz.1 r1, by have q := dp_of s hz.2 r2; rwa [py] at q, shaped_deep hz.1, by have q := shaped_deep hz.2; rwa [py] at q, ?_⟩
    rw [any_pys]
    exact po.scal s rfl rfl
  | tup ds =>
    obtain ⟨hz, po⟩ := guard_po po
    rw [Bool.and_eq_true] at hz
    obtain ⟨i, rfl, rfl⟩ := isI_of hz.1 r1
    obtain ⟨p, vs, e, g, q⟩ := r2
    obtain ⟨h1, h2⟩ := ints_in (i := i) hz.2 q
    refine .inr ⟨p, vs, e, .inr (.inl (.inl (s _ _ g))), rfl, h1, ?_⟩
    show Q (.bl (!inV (.int i) vs)) H
    rw [h2]
    exact po.scal s rfl rfl
  | _ => cases d1 <;> exact (show False from po).elim
variable (ha : DE X cm E 0 a ma) (hb : DE X cm E 0 b mb)
include ha hb
theorem de_isB : DE X cm E n (.Compare a [.Is] [b] pos) (mBin fIsB ma mb) := de_cmp op_isBl isBI ha hb (nomark _)
theorem de_notB : DE X cm E n (.Compare a [.IsNot] [b] pos) (mBin fNotB ma mb) := de_cmp op_notBl notBI ha hb (nomark _)
theorem dt_isB : DT X cm E (.Compare a [.Is] [b] pos) (mTest (mBin fIsB ma mb)) := dt_cmp op_isBl isBI ha hb (nomark _)
theorem dt_notB : DT X cm E (.Compare a [.IsNot] [b] pos) (mTest (mBin fNotB ma mb)) := dt_cmp op_notBl notBI ha hb (nomark _)
theorem de_in (hu : X.A.units + 65 < cLine) (hm : behindInMarks .In b = false := by rfl) : DE X cm E n (.Compare a [.In] [b] pos) (mBin fIn ma mb) := de_cmp ((op_inD hu).or op_in_seq) inE ha hb hm
theorem de_notIn (hu : X.A.units + 65 < cLine) (hm : behindInMarks .NotIn b = false := by rfl) : DE X cm E n (.Compare a [.NotIn] [b] pos) (mBin fNotIn ma mb) := de_cmp ((op_notInD hu).or op_notIn_seq) notInE ha hb hm
theorem dt_in (hu : X.A.units + 65 < cLine) (hm : behindInMarks .In b = false := by rfl) : DT X cm E (.Compare a [.In] [b] pos) (mTest (mBin fIn ma mb)) := dt_cmp ((op_inD hu).or op_in_seq) inE ha hb hm
theorem dt_notIn (hu : X.A.units + 65 < cLine) (hm : behindInMarks .NotIn b = false := by rfl) : DT X cm E (.Compare a [.NotIn] [b] pos) (mTest (mBin fNotIn ma mb)) := dt_cmp ((op_notInD hu).or op_notIn_seq) notInE ha hb hm
omit ha hb
theorem dt_isN {j : Nat} {pos' : Pos} (ha : DE X cm E 0 a ma) : DT X cm E (.Compare a [.Is] [.Constant .none j pos'] pos) (mTest (mUn fIsN ma)) :=
  PT.of (pt_cmp (pc_isN ha)) fun σ H Q ⟨G, Γ, s, ev, po⟩ => un_ok (n := 0) (f := fIsN) (r := fun x H1 Q => Q (.bl (decide (x = .non))) H1) (fun E x H G d1 Q s r1 po => by
    rcases rp_non r1 with ⟨rfl, rfl⟩ | ⟨h1, h2⟩
    · exact po.scal s rfl rfl
    · rw [decide_eq_false h2]
      have e : fIsN d1 = .ok (.bl false) := by cases d1 <;> first | rfl | exact absurd rfl h1
      rw [e] at po
      exact po.scal s rfl rfl) s ev (test_ok po)
theorem dt_notN {j : Nat} {pos' : Pos} (ha : DE X cm E 0 a ma) : DT X cm E (.Compare a [.IsNot] [.Constant .none j pos'] pos) (mTest (mUn fNotN ma)) :=
  PT.of (pt_cmp (pc_notN ha)) fun σ H Q ⟨G, Γ, s, ev, po⟩ => un_ok (n := 0) (f := fNotN) (r := fun x H1 Q => Q (.bl (!decide (x = .non))) H1) (fun E x H G d1 Q s r1 po => by
    rcases rp_non r1 with ⟨rfl, rfl⟩ | ⟨h1, h2⟩
    · exact po.scal s rfl rfl
    · rw [decide_eq_false h2]
      have e : fNotN d1 = .ok (.bl true) := by cases d1 <;> first | rfl | exact absurd rfl h1
      rw [e] at po
      exact po.scal s rfl rfl) s ev (test_ok po)

/-! ### and, or, not, chains -/
def bAnd (m u : Ev → Res Bool) : Ev → Res Bool := fun Γ => (m Γ).bind fun c => if c = true then u Γ else .ok false
def bOr (m u : Ev → Res Bool) : Ev → Res Bool := fun Γ => (m Γ).bind fun c => if c = true then .ok true else u Γ
def bNot (m : Ev → Res Bool) : Ev → Res Bool := fun Γ => (m Γ).bind fun c => .ok (!c)
variable {ta tb : Ev → Res Bool} {rest : List Expr}
theorem dw_and1 (h : DT X cm E a ta) : DW X cm E (.BoolOp .And [a] pos) ta := pw_and1 h
theorem dw_or1 (h : DT X cm E a ta) : DW X cm E (.BoolOp .Or [a] pos) ta := pw_or1 h
theorem dw_and (h : DT X cm E a ta) (hb : DW X cm E (.BoolOp .And (b :: rest) pos) tb) : DW X cm E (.BoolOp .And (a :: b :: rest) pos) (bAnd ta tb) := by
  refine PW.of (pw_and h hb) fun σ H Q ⟨G, Γ, s, ev, po⟩ => ⟨G, Γ, s, ev, ?_⟩
  unfold bAnd at po
  cases hx : ta Γ with
  | bad => rw [hx] at po; exact po.elim
  | exc c => rw [hx] at po; exact po
  | ok c =>
    rw [hx, Res.bind_ok] at po
    intro H1 G1 st
    have po1 := po.step st
    cases c with
    | true => exact ⟨G1, Γ, st.s, ev.mono st.g, po1⟩
    | false => exact po1 H1 G1 (.refl st.s)
theorem dw_or (h : DT X cm E a ta) (hb : DW X cm E (.BoolOp .Or (b :: rest) pos) tb) : DW X cm E (.BoolOp .Or (a :: b :: rest) pos) (bOr ta tb) := by
  refine PW.of (pw_or h hb) fun σ H Q ⟨G, Γ, s, ev, po⟩ => ⟨G, Γ, s, ev, ?_⟩
  unfold bOr at po
  cases hx : ta Γ with
  | bad => rw [hx] at po; exact po.elim
  | exc c => rw [hx] at po; exact po
  | ok c =>
    rw [hx, Res.bind_ok] at po
    intro H1 G1 st
    have po1 := po.step st
    cases c with
    | false => exact ⟨G1, Γ, st.s, ev.mono st.g, po1⟩
    | true => exact po1 H1 G1 (.refl st.s)
theorem DW.dt (h : DW X cm E e ta) : DT X cm E e ta := PW.pt h
theorem dt_not (h : DT X cm E a ta) : DT X cm E (.UnaryOp .Not a pos) (bNot ta) := by
  refine PT.of (pt_not h) fun σ H Q ⟨G, Γ, s, ev, po⟩ => ⟨G, Γ, s, ev, ?_⟩
  unfold bNot at po
  cases hx : ta Γ with
  | bad => rw [hx] at po; exact po.elim
  | exc c => rw [hx] at po; exact po
  | ok c => rw [hx, Res.bind_ok] at po; exact po
/-- as values -/
def mAnd (ma mb : Mr) : Mr := fun Γ => (ma Γ).bind fun d => match d with
  | .bl true => mb Γ
  | .bl false => .ok (.bl false)
  | _ => .bad
def mOr (ma mb : Mr) : Mr := fun Γ => (ma Γ).bind fun d => match d with
  | .bl true => .ok (.bl true)
  | .bl false => mb Γ
  | _ => .bad
def fNot : Dt → Res Dt
  | .bl b => .ok (.bl (!b))
  | _ => .bad
theorem de_one {op : BoolOp} (h : DE X cm E n a ma) : DE X cm E n (.BoolOp op [a] pos) ma := pe_one h
theorem de_and (h : DE X cm E 0 a ma) (hb : DE X cm E n (.BoolOp .And (b :: rest) pos) mb) : DE X cm E n (.BoolOp .And (a :: b :: rest) pos) (mAnd ma mb) := by
  refine PE.of (pe_and h hb) fun σ H Q ⟨G, Γ, s, ev, po⟩ => ⟨G, Γ, s, ev, ?_⟩
  unfold mAnd at po
  cases hx : ma Γ with
  | bad => rw [hx] at po; exact po.elim
  | exc c => rw [hx] at po; exact po
  | ok d =>
    rw [hx, Res.bind_ok] at po
    intro v H1 G1 L st _ _ ow
    rw [Ow.zero] at ow
    have po1 := po.step st
    cases d with
    | bl c =>
      refine ⟨c, ow.2, ?_⟩
      cases c with
      | true => exact ⟨G1, Γ, st.s, ev.mono st.g, po1⟩
      | false => exact po1.scal st.s rfl rfl
    | _ => exact (show False from po1).elim
theorem de_or (h : DE X cm E 0 a ma) (hb : DE X cm E n (.BoolOp .Or (b :: rest) pos) mb) : DE X cm E n (.BoolOp .Or (a :: b :: rest) pos) (mOr ma mb) := by
  refine PE.of (pe_or h hb) fun σ H Q ⟨G, Γ, s, ev, po⟩ => ⟨G, Γ, s, ev, ?_⟩
  unfold mOr at po
  cases hx : ma Γ with
  | bad => rw [hx] at po; exact po.elim
  | exc c => rw [hx] at po; exact po
  | ok d =>
    rw [hx, Res.bind_ok] at po
    intro v H1 G1 L st _ _ ow
    rw [Ow.zero] at ow
    have po1 := po.step st
    cases d with
    | bl c =>
      refine ⟨c, ow.2, ?_⟩
      cases c with
      | false => exact ⟨G1, Γ, st.s, ev.mono st.g, po1⟩
      | true => exact po1.scal st.s rfl rfl
    | _ => exact (show False from po1).elim
theorem de_not (h : DE X cm E 0 a ma) : DE X cm E n (.UnaryOp .Not a pos) (mUn fNot ma) :=
  PE.of (pe_not h) fun σ H Q ⟨G, Γ, s, ev, po⟩ => un_ok (n := n) (f := fNot) (r := fun x H1 Q => ∃ c, x = .bl c ∧ Q (.bl (!c)) H1) (fun E x H G d1 Q s r1 po => by
    cases d1 with
    | bl b => exact ⟨b, r1, po.scal s rfl rfl⟩
    | _ => exact (show False from po).elim) s ev po
end
end DL

set_option Elab.async false
set_option linter.all false
set_option maxRecDepth 100000
set_option maxHeartbeats 1000000
namespace DL
open PySem PySem.Spec PyProof.Rows L2

section
variable {X : Cx} {cm : Nat → Value} {E : L2.St → XK} {n : Nat} {a b c e : Expr} {es : List Expr} {ma mb mc m : Mr} {ms : Ev → Res (List Dt)} {pos p : Pos}

/-! ### a chain of two <= -/
def mChain (ma mb mc : Mr) : Mr := fun Γ => (ma Γ).bind fun x => (mb Γ).bind fun y => (fLe x y).bind fun k => match k with
  | .bl true => (mc Γ).bind fun z => fLe y z
  | .bl false => .ok (.bl false)
  | _ => .bad
theorem chain_ok {K : PySem.W.Frag} {σ : L2.St} {H G : Hp} {Γ : Ev} {Q : VK} (s : Same G H) (ev : EvR K G Γ σ) (po : Post K cm (E σ) n H G (mChain ma mb mc Γ) Q) :
    tChain (rI0 fun i j => V.bl (decide (i ≤ j))) (rI0 fun i j => V.bl (decide (i ≤ j))) (tD K cm E 0 ma) (tD K cm E 0 mb) (tD K cm E 0 mc) σ H Q := by
  refine ⟨G, Γ, s, ev, ?_⟩
  unfold mChain at po
  cases hx : ma Γ with
  | bad => rw [hx] at po; exact po.elim
  | exc c => rw [hx] at po; exact po
  | ok x =>
    rw [hx, Res.bind_ok] at po
    intro v H1 G1 L st _ _ ow
    rw [Ow.zero] at ow
    refine ⟨G1, Γ, st.s, ev.mono st.g, ?_⟩
    have po1 := po.step st
    cases hy : mb Γ with
    | bad => rw [hy] at po1; exact po1.elim
    | exc c => rw [hy] at po1; exact po1
    | ok y =>
      rw [hy, Res.bind_ok] at po1
      intro v2 H2 G2 L2 st2 _ _ ow2
      rw [Ow.zero] at ow2
      have po2 := po1.step st2
      cases x with
      | int i => cases y with
        | int j =>
          rw [show fLe (.int i) (.int j) = .ok (.bl (decide (i ≤ j))) from rfl, Res.bind_ok] at po2
          refine ⟨i, j, ow.2, ow2.2, decide (i ≤ j), rfl, ?_⟩
          cases hk : decide (i ≤ j) with
          | false => rw [hk] at po2; exact ite_ff (po2.scal st2.s rfl rfl)
          | true =>
            rw [hk] at po2
            refine ite_tt ⟨G2, Γ, st2.s, (ev.mono st.g).mono st2.g, ?_⟩
            have po3 : Post K cm (E σ) n H2 G2 ((mc Γ).bind fun z => fLe (.int j) z) Q := po2
            cases hz : mc Γ with
            | bad => rw [hz] at po3; exact po3.elim
            | exc c => rw [hz] at po3; exact po3
            | ok z =>
              rw [hz, Res.bind_ok] at po3
              intro v3 H3 G3 L3 st3 _ _ ow3
              rw [Ow.zero] at ow3
              have po4 := po3.step st3
              cases z with
              | int k => exact ⟨j, k, ow2.2, ow3.2, po4.scal st3.s rfl rfl⟩
              | _ => exact (show False from po4).elim
        | _ => exact (show False from po2).elim
      | _ => exact (show False from po2).elim
theorem de_chain (ha : DE X cm E 0 a ma) (hb : DE X cm E 0 b mb) (hc : DE X cm E 0 c mc) (hm : lastMarks [.LtE, .LtE] [b, c] = false := by with_unfolding_all rfl) : DE X cm E n (.Compare a [.LtE, .LtE] [b, c] pos) (mChain ma mb mc) :=
  PE.of (pe_chain op_le op_le ha hb hc hm) fun σ H Q ⟨G, Γ, s, ev, po⟩ => chain_ok s ev po
theorem dt_chain (ha : DE X cm E 0 a ma) (hb : DE X cm E 0 b mb) (hc : DE X cm E 0 c mc) (hm : lastMarks [.LtE, .LtE] [b, c] = false := by with_unfolding_all rfl) : DT X cm E (.Compare a [.LtE, .LtE] [b, c] pos) (mTest (mChain ma mb mc)) :=
  PT.of (pt_chain op_le op_le ha hb hc hm) fun σ H Q ⟨G, Γ, s, ev, po⟩ => chain_ok s ev (test_ok po)

/-! ### calls of built-ins -/
def mCall (f : List Dt → Res Dt) (ms : Ev → Res (List Dt)) : Mr := fun Γ => (ms Γ).bind f
/-- what a rule for values asks, from data -/
def CallD (X : Cx) (cm : Nat → Value) (n : Nat) (r : List V → Hp → VK → Prop) (f : List Dt → Res Dt) : Prop :=
  ∀ (Em : XK) (vs : List V) (H G : Hp) (ds : List Dt) (Q : VK), Same G H → Rps X.K G ds vs → Post X.K cm Em n H G (f ds) Q → r vs H Q
theorem call_ok {r : List V → Hp → VK → Prop} {f : List Dt → Res Dt} {σ : L2.St} {H G : Hp} {Γ : Ev} {Q : VK} (hf : CallD X cm n r f)
    (s : Same G H) (ev : EvR X.K G Γ σ) (po : Post X.K cm (E σ) n H G (mCall f ms Γ) Q) : tCB r (tDs X.K cm E 0 ms) σ H Q := by
  refine ⟨G, Γ, s, ev, ?_⟩
  unfold mCall at po
  cases hx : ms Γ with
  | bad => rw [hx] at po; exact po.elim
  | exc c => rw [hx] at po; exact po
  | ok ds =>
    rw [hx, Res.bind_ok] at po
    intro vs H1 G1 L st _ _ ow
    obtain ⟨_, ow⟩ := Ows.zero_of ow
    exact hf (E σ) vs H1 G1 ds Q st.s ow (po.step st)
theorem de_callB {r : List V → Hp → VK → Prop} {f : List Dt → Res Dt} {id : String} {x : Str} (hf : CallD X cm n r f) (hc : CallR X (.builtin id) r) (hg : Gl X x) (hm : X.mg x = none) (hv : bootBuiltins x = some (.builtin id)) (ha : DA X cm E 0 (e :: es) ms)
    (hn : x ≠ "__name__" := by decide) (hdb : (x == ("__debug__" : Str)) = false := by decide)
    (he : starEach (e :: es) X.env = (false, eval e X.env) :: starEach es X.env := by rfl) (hpl : (backTo pos (starEach es X.env)).any (·.1) = false := by rfl) : DE X cm E n (.Call (.Name x p) (e :: es) [] pos) (mCall f ms) :=
  PE.of (pe_callB hc hg hm hv ha hn hdb he hpl) fun σ H Q ⟨G, Γ, s, ev, po⟩ => call_ok hf s ev po
theorem de_callT {r : List V → Hp → VK → Prop} {f : List Dt → Res Dt} {id : String} {x : Str} (hf : CallD X cm n r f) (hc : CallR X (.type id) r) (hg : Gl X x) (hm : X.mg x = none) (hv : bootBuiltins x = some (.type id)) (ha : DA X cm E 0 (e :: es) ms)
    (hn : x ≠ "__name__" := by decide) (hdb : (x == ("__debug__" : Str)) = false := by decide)
    (he : starEach (e :: es) X.env = (false, eval e X.env) :: starEach es X.env := by rfl) (hpl : (backTo pos (starEach es X.env)).any (·.1) = false := by rfl) : DE X cm E n (.Call (.Name x p) (e :: es) [] pos) (mCall f ms) :=
  PE.of (pe_callTy hc hg hm hv ha hn hdb he hpl) fun σ H Q ⟨G, Γ, s, ev, po⟩ => call_ok hf s ev po
theorem rps1 {K : PySem.W.Frag} {G : Hp} {d : Dt} {vs : List V} (r : Rps K G [d] vs) : ∃ v, vs = [v] ∧ Rp K G d v := by
  obtain ⟨v, t, e, g, q⟩ := r
  exact ⟨v, by rw [e, show t = [] from q], g⟩
theorem rps2 {K : PySem.W.Frag} {G : Hp} {d d' : Dt} {vs : List V} (r : Rps K G [d, d'] vs) : ∃ v w, vs = [v, w] ∧ Rp K G d v ∧ Rp K G d' w := by
  obtain ⟨v, t, e, g, q⟩ := r
  obtain ⟨w, rfl, h⟩ := rps1 q
  exact ⟨v, w, e, g, h⟩

/-- len -/
def fLen : List Dt → Res Dt
  | [.lst ds] => .ok (.int ds.length)
  | [.tup ds] => .ok (.int ds.length)
  | [.scr ns] => .ok (.int ns.length)
  | _ => .bad
theorem lenD : CallD X cm n (fun xs H Q => ∃ p ys, xs = [.ref p] ∧ (SqL X.K H p ys ∨ SqT X.K H p ys) ∧ Q (.int ys.length) H) fLen := fun Em vs H G ds Q s r po => by
  match ds, r, po with
  | [], r, po => exact (show False from po).elim
  | [.lst ds], r, po =>
    obtain ⟨v, rfl, a, us, e, g, q⟩ := rps1 r
    refine ⟨a, us, by rw [e], .inl (.inl (.inl (s _ _ g))), ?_⟩
    rw [q.length]
    exact po.scal s rfl rfl
  | [.tup ds], r, po =>
    obtain ⟨v, rfl, a, us, e, g, q⟩ := rps1 r
    refine ⟨a, us, by rw [e], .inr (.inl (.inl (s _ _ g))), ?_⟩
    rw [q.length]
    exact po.scal s rfl rfl
  | [.scr ns], r, po =>
    obtain ⟨v, rfl, a, e, g⟩ := rps1 r
    refine ⟨a, ns.map V.int, by rw [e], .inl (s.seq g), ?_⟩
    rw [List.length_map]
    exact po.scal s rfl rfl
  | [.non], r, po => exact (show False from po).elim
  | [.bl b], r, po => exact (show False from po).elim
  | [.int i], r, po => exact (show False from po).elim
  | d :: d' :: t, r, po => exact (show False from (by cases d <;> exact po)).elim
theorem de_len (hm : X.mg "len" = none) (ha : DE X cm E 0 e m) (hg : Gl X "len" := by rfl) (he : starEach [e] X.env = (false, eval e X.env) :: starEach [] X.env := by rfl) (hpl : (backTo pos (starEach [] X.env)).any (·.1) = false := by rfl) :
    DE X cm E n (.Call (.Name "len" p) [e] [] pos) (mCall fLen (mCons m mNil)) :=
  de_callB lenD call_len_seq hg hm PySem.boot_len (da_cons ha da_nil he) (by decide) (by decide) he hpl

/-- the ints of a list -/
def ints? : List Dt → Option (List Int)
  | [] => some []
  | .int i :: ds => (ints? ds).map (i :: ·)
  | _ :: _ => none
theorem ints?_some : ∀ {ds : List Dt} {ns : List Int}, ints? ds = some ns → ds = ns.map Dt.int
  | [], ns, h => by cases h; rfl
  | .int i :: ds, ns, h => by
    unfold ints? at h
    obtain ⟨ms, h1, rfl⟩ := Option.map_eq_some_iff.mp h
    rw [ints?_some h1]; rfl
  | .non :: ds, ns, h => by cases h
  | .bl _ :: ds, ns, h => by cases h
  | .lst _ :: ds, ns, h => by cases h
  | .tup _ :: ds, ns, h => by cases h
  | .scr _ :: ds, ns, h => by cases h
@[simp] theorem ints?_map : ∀ ns : List Int, ints? (ns.map Dt.int) = some ns
  | [] => rfl
  | n :: ns => by rw [List.map_cons, ints?, ints?_map ns]; rfl
def bls? : List Dt → Option (List Bool)
  | [] => some []
  | .bl i :: ds => (bls? ds).map (i :: ·)
  | _ :: _ => none
theorem bls?_some : ∀ {ds : List Dt} {ns : List Bool}, bls? ds = some ns → ds = ns.map Dt.bl
  | [], ns, h => by cases h; rfl
  | .bl i :: ds, ns, h => by
    unfold bls? at h
    obtain ⟨ms, h1, rfl⟩ := Option.map_eq_some_iff.mp h
    rw [bls?_some h1]; rfl
  | .non :: ds, ns, h => by cases h
  | .int _ :: ds, ns, h => by cases h
  | .lst _ :: ds, ns, h => by cases h
  | .tup _ :: ds, ns, h => by cases h
  | .scr _ :: ds, ns, h => by cases h
@[simp] theorem bls?_map : ∀ ns : List Bool, bls? (ns.map Dt.bl) = some ns
  | [] => rfl
  | n :: ns => by rw [List.map_cons, bls?, bls?_map ns]; rfl
/-- a function of one list of ints -/
def fInts (g : List Int → Res Dt) : List Dt → Res Dt
  | [.lst ds] => match ints? ds with
    | some ns => g ns
    | none => .bad
  | _ => .bad
theorem fInts_cases {g : List Int → Res Dt} {ds : List Dt} {P : Prop} (h : fInts g ds = .bad → P) (h2 : ∀ ns, ds = [.lst (ns.map Dt.int)] → fInts g ds = g ns → P) : P := by
  match ds, h, h2 with
  | [], h, _ => exact h rfl
  | [.lst ds], h, h2 =>
    cases e : ints? ds with
    | none => exact h (by unfold fInts; simp only [e])
    | some ns => exact h2 ns (by rw [ints?_some e]) (by unfold fInts; simp only [e])
  | [.non], h, _ => exact h rfl
  | [.bl _], h, _ => exact h rfl
  | [.int _], h, _ => exact h rfl
  | [.tup _], h, _ => exact h rfl
  | [.scr _], h, _ => exact h rfl
  | d :: d' :: t, h, _ => exact h (by cases d <;> rfl)
theorem intsD {r : List V → Hp → VK → Prop} {g : List Int → Res Dt} (hr : ∀ (Em : XK) (a : Addr) (ns : List Int) (H G : Hp) (Q : VK), Same G H → H a = some (.lst (ns.map V.int)) → Post X.K cm Em n H G (g ns) Q → r [.ref a] H Q) : CallD X cm n r (fInts g) := fun Em vs H G ds Q s rr po => by
  refine fInts_cases (g := g) (ds := ds) (fun h => ?_) fun ns e h => ?_
  · rw [h] at po; exact po.elim
  · subst e
    rw [h] at po
    obtain ⟨v, rfl, a, us, e, ga, q⟩ := rps1 rr
    rw [q.ints] at ga
    subst e
    exact hr Em a ns H G Q s (s _ _ ga) po
def fSum : List Dt → Res Dt := fInts fun ns => .ok (.int ns.sum)
theorem sumD : CallD X cm n (rSum X.K) fSum := intsD fun Em a ns H G Q s h po => ⟨a, ns, rfl, .inl (.inl h), po.scal s rfl rfl⟩
theorem de_sum (hc : X.calm = true) (hm : X.mg "sum" = none) (ha : DE X cm E 0 e m) (hg : Gl X "sum" := by rfl) (he : starEach [e] X.env = (false, eval e X.env) :: starEach [] X.env := by rfl) (hpl : (backTo pos (starEach [] X.env)).any (·.1) = false := by rfl) :
    DE X cm E n (.Call (.Name "sum" p) [e] [] pos) (mCall fSum (mCons m mNil)) :=
  de_callB sumD (cr_sum hc) hg hm boot_sum (da_cons ha da_nil he) (by decide) (by decide) he hpl
def insI (x : Int) : List Int → List Int
  | [] => [x]
  | y :: l => if x ≤ y then x :: y :: l else y :: insI x l
def sortI : List Int → List Int
  | [] => []
  | x :: l => insI x (sortI l)
theorem insI_perm (x : Int) : ∀ l : List Int, (insI x l).Perm (x :: l)
  | [] => List.Perm.refl _
  | y :: l => by
    unfold insI
    split
    · exact List.Perm.refl _
    · exact ((insI_perm x l).cons y).trans (List.Perm.swap x y l)
theorem sortI_perm : ∀ ns : List Int, (sortI ns).Perm ns
  | [] => List.Perm.refl _
  | x :: l => (insI_perm x (sortI l)).trans ((sortI_perm l).cons x)
theorem insI_sorted (x : Int) : ∀ l : List Int, l.Pairwise (· ≤ ·) → (insI x l).Pairwise (· ≤ ·)
  | [], _ => List.pairwise_singleton _ _
  | y :: l, h => by
    obtain ⟨h1, h2⟩ := List.pairwise_cons.mp h
    unfold insI
    split
    · rename_i q
      exact List.pairwise_cons.mpr ⟨fun z hz => (List.mem_cons.mp hz).elim (fun e => e ▸ q) fun hz => Int.le_trans q (h1 z hz), h⟩
    · rename_i q
      refine List.pairwise_cons.mpr ⟨fun z hz => ?_, insI_sorted x l h2⟩
      rcases List.mem_cons.mp ((insI_perm x l).mem_iff.mp hz) with e | e
      · subst e; omega
      · exact h1 z e
theorem sortI_sorted : ∀ ns : List Int, (sortI ns).Pairwise (· ≤ ·)
  | [] => List.Pairwise.nil
  | x :: l => insI_sorted x _ (sortI_sorted l)
theorem sorted_unique {xs ys : List Int} (p : xs.Perm ys) (h1 : xs.Pairwise (· ≤ ·)) (h2 : ys.Pairwise (· ≤ ·)) : xs = ys :=
  p.eq_of_pairwise (fun a b _ _ h1 h2 => Int.le_antisymm h1 h2) h1 h2
theorem sortI_eq {xs ys : List Int} (p : xs.Perm ys) (h : xs.Pairwise (· ≤ ·)) : xs = sortI ys := sorted_unique (p.trans (sortI_perm ys).symm) h (sortI_sorted ys)
def fSorted : List Dt → Res Dt := fInts fun ns => .ok (.lst ((sortI ns).map Dt.int))
theorem sortedD (hn : n ≤ 1) : CallD X cm n (rSortedI X.K) fSorted := intsD fun Em a ns H G Q s h po => ⟨a, ns, rfl, .inl (.inl h), fun ns' p pm so np => by
  rw [sortI_eq pm so]
  exact po.list hn s np Rps.of_ints⟩
theorem de_sorted (hn : n ≤ 1) (hm : X.mg "sorted" = none) (ha : DE X cm E 0 e m) (hg : Gl X "sorted" := by rfl) (he : starEach [e] X.env = (false, eval e X.env) :: starEach [] X.env := by rfl) (hpl : (backTo pos (starEach [] X.env)).any (·.1) = false := by rfl) :
    DE X cm E n (.Call (.Name "sorted" p) [e] [] pos) (mCall fSorted (mCons m mNil)) :=
  de_callB (sortedD hn) cr_sortedI hg hm boot_sorted (da_cons ha da_nil he) (by decide) (by decide) he hpl
/-- all of a list of bools -/
def fAll : List Dt → Res Dt
  | [.lst ds] => match bls? ds with
    | some bs => .ok (.bl (bs.all id))
    | none => .bad
  | _ => .bad
theorem allD : CallD X cm n (rAll X.K) fAll := fun Em vs H G ds Q s rr po => by
  have key : ∀ ds, (∃ us bs, ds = [.lst us] ∧ bls? us = some bs) ∨ fAll ds = .bad := by
    intro ds
    match ds with
    | [] => exact .inr rfl
    | [.lst us] =>
      cases e : bls? us with
      | none => exact .inr (by unfold fAll; simp only [e])
      | some bs => exact .inl ⟨us, bs, rfl, e⟩
    | [.non] => exact .inr rfl
    | [.bl _] => exact .inr rfl
    | [.int _] => exact .inr rfl
    | [.tup _] => exact .inr rfl
    | [.scr _] => exact .inr rfl
    | d :: d' :: t => exact .inr (by cases d <;> rfl)
  rcases key ds with ⟨us, bs, rfl, e⟩ | h
  · have po' : Post X.K cm Em n H G (.ok (.bl (bs.all id))) Q := by
      have q : fAll [.lst us] = .ok (.bl (bs.all id)) := by unfold fAll; simp only [e]
      rw [q] at po; exact po
    obtain ⟨v, rfl, a, ws, ev, ga, q⟩ := rps1 rr
    rw [bls?_some e] at q
    rw [q.bls] at ga
    exact ⟨a, bs, by rw [ev], .inl (.inl (s _ _ ga)), po'.scal s rfl rfl⟩
  · rw [h] at po; exact po.elim
theorem de_all (hc : X.calm = true) (hm : X.mg "all" = none) (ha : DE X cm E 0 e m) (hg : Gl X "all" := by rfl) (he : starEach [e] X.env = (false, eval e X.env) :: starEach [] X.env := by rfl) (hpl : (backTo pos (starEach [] X.env)).any (·.1) = false := by rfl) :
    DE X cm E n (.Call (.Name "all" p) [e] [] pos) (mCall fAll (mCons m mNil)) :=
  de_callB allD (cr_all hc) hg hm boot_all (da_cons ha da_nil he) (by decide) (by decide) he hpl
/-- list(xs) -/
def fList : List Dt → Res Dt
  | [.lst ds] => .ok (.lst ds)
  | [.tup ds] => .ok (.lst ds)
  | _ => .bad
theorem listD (hn : n ≤ 1) : CallD X cm n (fun xs H Q => ∃ p ys, xs = [.ref p] ∧ (SqL X.K H p ys ∨ SqT X.K H p ys) ∧ ∀ l, H l = none → Q (.ref l) (upd H l (.lst ys))) fList := fun Em vs H G ds Q s r po => by
  match ds, r, po with
  | [], r, po => exact (show False from po).elim
  | [.lst ds], r, po =>
    obtain ⟨v, rfl, a, us, e, g, q⟩ := rps1 r
    exact ⟨a, us, by rw [e], .inl (.inl (.inl (s _ _ g))), fun l nl => po.list hn s nl q⟩
  | [.tup ds], r, po =>
    obtain ⟨v, rfl, a, us, e, g, q⟩ := rps1 r
    exact ⟨a, us, by rw [e], .inr (.inl (.inl (s _ _ g))), fun l nl => po.list hn s nl q⟩
  | [.scr ns], r, po => exact (show False from po).elim
  | [.non], r, po => exact (show False from po).elim
  | [.bl b], r, po => exact (show False from po).elim
  | [.int i], r, po => exact (show False from po).elim
  | d :: d' :: t, r, po => exact (show False from (by cases d <;> exact po)).elim
theorem de_list (hn : n ≤ 1) (hm : X.mg "list" = none) (ha : DE X cm E 0 e m) (hg : Gl X "list" := by rfl) (he : starEach [e] X.env = (false, eval e X.env) :: starEach [] X.env := by rfl) (hpl : (backTo pos (starEach [] X.env)).any (·.1) = false := by rfl) :
    DE X cm E n (.Call (.Name "list" p) [e] [] pos) (mCall fList (mCons m mNil)) :=
  de_callT (listD hn) call_list_of hg hm PyProof.Rows.boot_list (da_cons ha da_nil he) (by decide) (by decide) he hpl
/-- int(flag), int(n) -/
def fInt : List Dt → Res Dt
  | [.int i] => .ok (.int i)
  | [.bl k] => .ok (.int (if k then 1 else 0))
  | _ => .bad
theorem intD : CallD X cm n (fun xs H Q => (∃ i, xs = [.int i] ∧ Q (.int i) H) ∨ ∃ k, xs = [.bl k] ∧ Q (.int (if k then 1 else 0)) H) fInt := fun Em vs H G ds Q s r po => by
  match ds, r, po with
  | [], r, po => exact (show False from po).elim
  | [.int i], r, po =>
    obtain ⟨v, rfl, e⟩ := rps1 r
    exact .inl ⟨i, by rw [show v = _ from e], po.scal s rfl rfl⟩
  | [.bl k], r, po =>
    obtain ⟨v, rfl, e⟩ := rps1 r
    exact .inr ⟨k, by rw [show v = _ from e], po.scal s rfl rfl⟩
  | [.lst ns], r, po => exact (show False from po).elim
  | [.tup ns], r, po => exact (show False from po).elim
  | [.scr ns], r, po => exact (show False from po).elim
  | [.non], r, po => exact (show False from po).elim
  | d :: d' :: t, r, po => exact (show False from (by cases d <;> exact po)).elim
theorem de_toint (hm : X.mg "int" = none) (ha : DE X cm E 0 e m) (hg : Gl X "int" := by rfl) (he : starEach [e] X.env = (false, eval e X.env) :: starEach [] X.env := by rfl) (hpl : (backTo pos (starEach [] X.env)).any (·.1) = false := by rfl) :
    DE X cm E n (.Call (.Name "int" p) [e] [] pos) (mCall fInt (mCons m mNil)) :=
  de_callT intD call_int1 hg hm PyProof.Rows.boot_int (da_cons ha da_nil he) (by decide) (by decide) he hpl

/-! ### list(range(..)) -/
def rgD (a b : Int) : List Int := (List.range (b - a).toNat).map fun i : Nat => a + (i : Int)
theorem rgV_eq (a b : Int) : rgV a b = (rgD a b).map V.int := by
  unfold rgV rgD
  rw [List.map_map]
  rfl
def okRg (a b : Int) : Bool := decide (-(2 ^ 62) ≤ a) && decide (a < 2 ^ 62) && decide (-(2 ^ 62) ≤ b) && decide (b < 2 ^ 62) && decide ((b - a).toNat ≤ 16777216)
theorem okRg_of {a b : Int} (h : okRg a b = true) : RgOk a b := by
  unfold okRg at h
  simp only [Bool.and_eq_true, decide_eq_true_eq] at h
  exact ⟨h.1.1.1.1, h.1.1.1.2, h.1.1.2, h.1.2, h.2⟩
def fRg (x y : Dt) : Res (List Int) := match x, y with
  | .int a, .int b => guardR (okRg a b) (.ok (rgD a b))
  | _, _ => .bad
def mRg (ma mb : Mr) : Ev → Res (List Int) := fun Γ => (ma Γ).bind fun x => (mb Γ).bind fun y => fRg x y
def mLstRg (ma mb : Mr) : Mr := fun Γ => (mRg ma mb Γ).bind fun ns => .ok (.lst (ns.map Dt.int))
theorem guard_gen {α : Type} {b : Bool} {r : Res α} {a : α} (h : guardR b r = .ok a) : b = true ∧ r = .ok a := by
  cases b with
  | true => exact ⟨rfl, h⟩
  | false => cases h
theorem de_lstRg1 (hn : n ≤ 1) (hc : X.calm = true) (hm : X.mg "list" = none) (hm2 : X.mg "range" = none) (ha : DE X cm E 0 a ma) {p1 p2 pos1 : Pos} (hg : Gl X "list" := by rfl) (hg2 : Gl X "range" := by rfl)
    (na : starEach [.Call (.Name "range" p1) [a] [] p2] X.env = (false, eval (.Call (.Name "range" p1) [a] [] p2) X.env) :: starEach [] X.env := by rfl) (nb : starEach [a] X.env = (false, eval a X.env) :: starEach [] X.env := by rfl) :
    DE X cm E n (.Call (.Name "list" p) [.Call (.Name "range" p1) [a] [] p2] [] pos) (mLstRg (mC (.int 0)) ma) := by
  refine PE.of (pe_listRg hc hg hm (prg_1 hg2 hm2 ha nb) na) fun σ H Q ⟨G, Γ, s, ev, po⟩ => ⟨G, Γ, s, ev, ?_⟩
  unfold mLstRg mRg mC at po
  rw [Res.bind_ok] at po
  cases hx : ma Γ with
  | bad => rw [hx] at po; exact po.elim
  | exc c => rw [hx] at po; exact po
  | ok x =>
    rw [hx, Res.bind_ok] at po
    intro v H1 G1 L st _ _ ow
    rw [Ow.zero] at ow
    have po1 := po.step st
    cases x with
    | int b =>
      refine ⟨b, ow.2, ?_⟩
      cases hk : okRg 0 b with
      | false => rw [show fRg (.int 0) (.int b) = .bad by show guardR (okRg 0 b) _ = _; rw [hk]; rfl] at po1; exact po1.elim
      | true =>
        rw [show fRg (.int 0) (.int b) = .ok (rgD 0 b) by show guardR (okRg 0 b) _ = _; rw [hk]; rfl] at po1
        refine ⟨okRg_of hk, fun q nq => ?_⟩
        rw [rgV_eq]
        exact po1.list hn st.s nq Rps.of_ints
    | _ => exact (show False from po1).elim
theorem de_lstRg2 (hn : n ≤ 1) (hc : X.calm = true) (hm : X.mg "list" = none) (hm2 : X.mg "range" = none) (ha : DE X cm E 0 a ma) (hb : DE X cm E 0 b mb) {p1 p2 : Pos} (hg : Gl X "list" := by rfl) (hg2 : Gl X "range" := by rfl)
    (na : starEach [.Call (.Name "range" p1) [a, b] [] p2] X.env = (false, eval (.Call (.Name "range" p1) [a, b] [] p2) X.env) :: starEach [] X.env := by rfl) (nb : starEach [a, b] X.env = (false, eval a X.env) :: starEach [b] X.env := by rfl) (nc : (backTo p2 (starEach [b] X.env)).any (·.1) = false := by rfl) (nd : starEach [b] X.env = (false, eval b X.env) :: starEach [] X.env := by rfl) :
    DE X cm E n (.Call (.Name "list" p) [.Call (.Name "range" p1) [a, b] [] p2] [] pos) (mLstRg ma mb) := by
  refine PE.of (pe_listRg hc hg hm (prg_2 hg2 hm2 ha hb nb nd nc) na) fun σ H Q ⟨G, Γ, s, ev, po⟩ => ⟨G, Γ, s, ev, ?_⟩
  unfold mLstRg mRg at po
  cases hx : ma Γ with
  | bad => rw [hx] at po; exact po.elim
  | exc c => rw [hx] at po; exact po
  | ok x =>
    rw [hx, Res.bind_ok] at po
    intro v H1 G1 L st _ _ ow
    rw [Ow.zero] at ow
    have po1 := po.step st
    refine ⟨G1, Γ, st.s, ev.mono st.g, ?_⟩
    cases hy : mb Γ with
    | bad => rw [hy] at po1; exact po1.elim
    | exc c => rw [hy] at po1; exact po1
    | ok y =>
      rw [hy, Res.bind_ok] at po1
      intro v2 H2 G2 L2 st2 _ _ ow2
      rw [Ow.zero] at ow2
      have po2 := po1.step st2
      cases x with
      | int a => cases y with
        | int b =>
          refine ⟨a, b, ow.2, ow2.2, ?_⟩
          cases hk : okRg a b with
          | false => rw [show fRg (.int a) (.int b) = .bad by show guardR (okRg a b) _ = _; rw [hk]; rfl] at po2; exact po2.elim
          | true =>
            rw [show fRg (.int a) (.int b) = .ok (rgD a b) by show guardR (okRg a b) _ = _; rw [hk]; rfl] at po2
            refine ⟨okRg_of hk, fun q nq => ?_⟩
            rw [rgV_eq]
            exact po2.list hn st2.s nq Rps.of_ints
        | _ => exact (show False from po2).elim
      | _ => exact (show False from po2).elim
end
end DL

set_option Elab.async false
set_option linter.all false
set_option maxRecDepth 100000
set_option maxHeartbeats 1000000
namespace DL
open PySem PySem.Spec PyProof.Rows L2

/-! ### calls of the program's own defs -/
def noX {α : Type} : Res α → Res α
  | .ok a => .ok a
  | _ => .bad
@[simp] theorem noX_ok {α : Type} (a : α) : noX (.ok a) = .ok a := rfl
@[simp] theorem noX_exc {α : Type} (c : Nat) : noX (.exc c : Res α) = .bad := rfl
@[simp] theorem noX_bad {α : Type} : noX (.bad : Res α) = .bad := rfl
/-- a def's promise: its mirror f of k arguments; nr: how deep its answer is its own -/
def spD (K : PySem.W.Frag) (cm : Nat → Value) (k nr : Nat) (f : List Dt → Res Dt) : Sp := fun vs H Q E => ∃ ds G, ds.length = k ∧ Same G H ∧ Rps K G ds vs ∧ Post K cm E nr H G (f ds) Q
theorem Post.noX {K : PySem.W.Frag} {cm : Nat → Value} {E E' : XK} {n : Nat} {H G : Hp} {r : Res Dt} {Q : VK} (po : Post K cm E n H G (noX r) Q) : Post K cm E' n H G r Q := by
  cases r with
  | ok d => exact po
  | exc c => exact (show False from po).elim
  | bad => exact (show False from po).elim

section
variable {X : Cx} {cm : Nat → Value} {E : L2.St → XK} {n : Nat} {a b c e : Expr} {es : List Expr} {ma mb mc m : Mr} {ms : Ev → Res (List Dt)} {pos p : Pos}
variable {CXf : CXT} {k nr : Nat} {f : Addr} {fd : FuncData} {ps : List Str} {mf : List Dt → Res Dt} {x : Str}
def mFn (mf : List Dt → Res Dt) (k : Nat) (ms : Ev → Res (List Dt)) : Mr := fun Γ => (ms Γ).bind fun ds => guardR (decide (ds.length = k)) (mf ds)
def mFnN (mf : List Dt → Res Dt) (k : Nat) (ms : Ev → Res (List Dt)) : Mr := fun Γ => (ms Γ).bind fun ds => guardR (decide (ds.length = k)) (noX (mf ds))
/-- a def that raises nothing here -/
theorem de_fnN {j : Nat} (F : FnOk X.prog X.w X.K X.mg X.base (L2.CX X.prog X.w) j f fd ps (spD X.K cm k nr mf)) (hr : Room j X.A) (hm : X.mg x = some (.ref f)) (hk : PySem.W.keepIn X.K (.ref f) = true) (hb : Binds X.K fd ps []) (ha : DA X cm E 0 (e :: es) ms)
    (hg : Gl X x := by rfl) (hdb : (x == ("__debug__" : Str)) = false := by decide) (he : starEach (e :: es) X.env = (false, eval e X.env) :: starEach es X.env := by rfl) (hpl : (backTo pos (starEach es X.env)).any (·.1) = false := by rfl) :
    DE X cm E nr (.Call (.Name x p) (e :: es) [] pos) (mFnN mf k ms) := by
  refine PE.of (pe_call F hr hg hm hk hb .nil passL ha hdb he hpl) fun σ H Q ⟨G, Γ, s, ev, po⟩ => ⟨G, Γ, s, ev, ?_⟩
  unfold mFnN at po
  cases hx : ms Γ with
  | bad => rw [hx] at po; exact po.elim
  | exc c => rw [hx] at po; exact po
  | ok ds =>
    rw [hx, Res.bind_ok] at po
    intro vs H1 G1 L st _ _ ow
    obtain ⟨_, ow⟩ := Ows.zero_of ow
    obtain ⟨hl, po⟩ := guard_po po
    refine ⟨ds, G1, of_decide_eq_true hl, st.s, by rw [List.append_nil]; exact ow, (po.step st).noX⟩
/-- a def that may raise what this place takes -/
theorem de_fn {j : Nat} (F : FnOk X.prog X.w X.K X.mg X.base (L2.CX X.prog X.w) j f fd ps (spD X.K cm k nr mf)) (hr : Room j X.A) (hm : X.mg x = some (.ref f)) (hk : PySem.W.keepIn X.K (.ref f) = true) (hb : Binds X.K fd ps []) (hx : ∀ σ, PassesAt (L2.CX X.prog X.w) X σ (E σ)) (ha : DA X cm E 0 (e :: es) ms)
    (hg : Gl X x := by rfl) (hdb : (x == ("__debug__" : Str)) = false := by decide) (he : starEach (e :: es) X.env = (false, eval e X.env) :: starEach es X.env := by rfl) (hpl : (backTo pos (starEach es X.env)).any (·.1) = false := by rfl) :
    DE X cm E nr (.Call (.Name x p) (e :: es) [] pos) (mFn mf k ms) := by
  refine PE.of (pe_callS F hr hg hm hk hb hx ha hdb he hpl) fun σ H Q ⟨G, Γ, s, ev, po⟩ => ⟨G, Γ, s, ev, ?_⟩
  unfold mFn at po
  cases hx : ms Γ with
  | bad => rw [hx] at po; exact po.elim
  | exc c => rw [hx] at po; exact po
  | ok ds =>
    rw [hx, Res.bind_ok] at po
    intro vs H1 G1 L st _ _ ow
    obtain ⟨_, ow⟩ := Ows.zero_of ow
    obtain ⟨hl, po⟩ := guard_po po
    exact ⟨ds, G1, of_decide_eq_true hl, st.s, ow, po.step st⟩
/-- .. without arguments -/
def mFn0 (mf : List Dt → Res Dt) : Mr := fun _ => noX (mf [])
theorem de_fn0 {j : Nat} (F : FnOk X.prog X.w X.K X.mg X.base (L2.CX X.prog X.w) j f fd ps (spD X.K cm 0 nr mf)) (hr : Room j X.A) (hm : X.mg x = some (.ref f)) (hk : PySem.W.keepIn X.K (.ref f) = true) (hb : Binds X.K fd ps [])
    (hg : Gl X x := by rfl) (hdb : (x == ("__debug__" : Str)) = false := by decide) : DE X cm E nr (.Call (.Name x p) [] [] pos) (mFn0 mf) := by
  refine PE.of (pe_call0 F hr hg hm hk hb .nil passL hdb) fun σ H Q ⟨G, Γ, s, ev, po⟩ => ?_
  show spD X.K cm 0 nr mf ([] ++ []) H Q E0
  exact ⟨[], G, rfl, s, rfl, (show Post X.K cm (E σ) nr H G (noX (mf [])) Q from po).noX⟩

/-! ### isinstance of a built-in type -/
def tyOf : Dt → Option String
  | .non => some "NoneType"
  | .bl _ => some "bool"
  | .int _ => some "int"
  | .lst _ => some "list"
  | .tup _ => some "tuple"
  | .scr _ => none
def fIsi (T : String) (d : Dt) : Res Dt := match tyOf d with
  | some t => match kitB t T with
    | some b => .ok (.bl b)
    | none => .bad
  | none => .bad
theorem de_isi {T : Str} {T' : String} {p2 : Pos} (hm : X.mg "isinstance" = none) (hmT : X.mg T = none) (hv : bootBuiltins T = some (.type T')) (ha : DE X cm E 0 e m) (hg : Gl X "isinstance" := by rfl) (hgT : Gl X T := by rfl) (hn : T ≠ "__name__" := by decide) (hd : (T == ("__debug__" : Str)) = false := by decide)
    (he : starEach [e, .Name T p2] X.env = (false, eval e X.env) :: starEach [.Name T p2] X.env := by rfl) (he2 : starEach [.Name T p2] X.env = (false, eval (.Name T p2) X.env) :: starEach [] X.env := by rfl) (hpl : (backTo pos (starEach [.Name T p2] X.env)).any (·.1) = false := by rfl) :
    DE X cm E n (.Call (.Name "isinstance" p) [e, .Name T p2] [] pos) (mUn (fIsi T') m) := by
  refine PE.of (pe_callB call_isi hg hm boot_isinstance (pa_cons ha (pa_cons (pe_bltn (v := .ty T') hgT hmT hv rfl hn hd) pa_nil he2) he) (by decide) (by decide) he hpl) fun σ H Q ⟨G, Γ, s, ev, po⟩ => ?_
  refine un_ok (n := n) (f := fIsi T') (r := fun x H1 Q => rIsi X.K [x, .ty T'] H1 Q) (fun Em x H G d Q s r1 po => ?_) s ev po
  have key : ∀ t, tyOf d = some t → TyX X.K H x (.type t) := by
    intro t ht
    cases d with
    | non => cases ht; rw [show x = _ from r1]; exact .base .non
    | bl b => cases ht; rw [show x = _ from r1]; exact .base (.bl b)
    | int b => cases ht; rw [show x = _ from r1]; exact .base (.int b)
    | lst ds => cases ht; obtain ⟨a, vs, rfl, g, _⟩ := r1; exact .base (.lst (s _ _ g))
    | tup ds => cases ht; obtain ⟨a, vs, rfl, g, _⟩ := r1; exact .base (.tup (s _ _ g))
    | scr ns => cases ht
  unfold fIsi at po
  cases ht : tyOf d with
  | none => rw [ht] at po; exact po.elim
  | some t =>
    rw [ht] at po
    dsimp only at po
    cases hb : kitB t T' with
    | none => rw [hb] at po; exact po.elim
    | some b =>
      rw [hb] at po
      exact ⟨x, .ty T', .type t, .type T', b, rfl, .ty T', key t ht, kit_ty hb, po.scal s rfl rfl⟩
end

/-! ### what is walked -/
def setAll (σ : L2.St) : List Nat → List V → L2.St
  | i :: is, v :: vs => setAll (σ.set i (some v)) is vs
  | _, _ => σ
def bindAll (Γ : Ev) : List Nat → List Dt → Ev
  | i :: is, d :: ds => bindAll (Γ.set i (some d)) is ds
  | _, _ => Γ
structure Src (K : PySem.W.Frag) (J : It) (g : TG) (slots : List Nat) (rows : List (List Dt)) (G : Hp) : Prop where
  stop : ∀ H, Same G H → J.stop rows.length H
  go : ∀ i H, Same G H → i < rows.length → J.go i H
  bind : ∀ i H x H' σ Q ds, Same G H → rows[i]? = some ds → J.yld i H x H' → (∀ vs H2, Same H H2 → Rps K G ds vs → Q (setAll σ slots vs) H2) → g x σ H' Q
  len : ∀ r ∈ rows, r.length = slots.length
theorem Src.mono {K : PySem.W.Frag} {J : It} {g : TG} {slots : List Nat} {rows : List (List Dt)} {G G' : Hp} (S : Src K J g slots rows G) (h : Same G G') : Src K J g slots rows G' :=
  ⟨fun H s => S.stop H (h.trans s), fun i H s => S.go i H (h.trans s), fun i H x H' σ Q ds s e y q => S.bind i H x H' σ Q ds (h.trans s) e y fun vs H2 s2 r => q vs H2 s2 (r.mono h), S.len⟩
def PostI (K : PySem.W.Frag) (cm : Nat → Value) (E : XK) (g : TG) (slots : List Nat) (H G : Hp) (r : Res (List (List Dt))) (R : It → Hp → Prop) : Prop := match r with
  | .ok rows => ∀ J H1 G1, Stp H G H1 G1 → Src K J g slots rows G1 → R J H1
  | .exc c => ∀ H', Same H H' → E (cm c) none H'
  | .bad => False
theorem PostI.step {K : PySem.W.Frag} {cm : Nat → Value} {E : XK} {g : TG} {slots : List Nat} {H G H1 G1 : Hp} {r : Res (List (List Dt))} {R : It → Hp → Prop} (po : PostI K cm E g slots H G r R) (st : Stp H G H1 G1) : PostI K cm E g slots H1 G1 r R := by
  cases r with
  | ok rows => exact fun J H2 G2 t S => po J H2 G2 (st.trans t) S
  | exc c => exact fun H' t => po H' (st.h.trans t)
  | bad => exact po
abbrev Mi := Ev → Res (List (List Dt))
def tDI (K : PySem.W.Frag) (cm : Nat → Value) (E : L2.St → XK) (g : TG) (slots : List Nat) (m : Mi) : TI := fun σ H R => ∃ G Γ, Same G H ∧ EvR K G Γ σ ∧ PostI K cm (E σ) g slots H G (m Γ) R
def DI (X : Cx) (cm : Nat → Value) (E : L2.St → XK) (tg iter : Expr) (g : TG) (slots : List Nat) (m : Mi) : Prop := PI X tg iter (tDI X.K cm E g slots m)
theorem PI.of {X : Cx} {tg iter : Expr} {t t' : TI} (h : PI X tg iter t) (w : ∀ σ H R, t' σ H R → t σ H R) : PI X tg iter t' := ⟨fun pins s σ H R I q => h.run pins s σ H R I (w σ H R q)⟩

def one (d : Dt) : List Dt := [d]
def gTwo (K : PySem.W.Frag) (i j : Nat) : TG := gTup K 2 (gCons (gName i) (gCons (gName j) gNil))
theorem rgD_length (a b : Int) : (rgD a b).length = (b - a).toNat := by unfold rgD; simp
theorem rgD_get {a b : Int} {i : Nat} (h : i < (b - a).toNat) : (rgD a b)[i]? = some (a + i) := by
  unfold rgD
  rw [List.getElem?_map, List.getElem?_range h]
  rfl
/-- a range -/
theorem src_range (K : PySem.W.Frag) (lo hi : Int) (i : Nat) (G : Hp) : Src K (Itr lo (hi - lo).toNat) (gName i) [i] ((rgD lo hi).map fun k => one (.int k)) G := by
  refine ⟨fun H _ => ?_, fun k H _ h => ?_, fun k H x H' σ Q ds s e y q => ?_, fun r hr => ?_⟩
  · show (hi - lo).toNat ≤ _
    rw [List.length_map, rgD_length]; exact Nat.le_refl _
  · rw [List.length_map, rgD_length] at h; exact h
  · obtain ⟨rfl, rfl⟩ := y
    rw [List.getElem?_map] at e
    obtain ⟨z, hz, rfl⟩ := Option.map_eq_some_iff.mp e
    have hlt : k < (hi - lo).toNat := by
      have := (List.getElem?_eq_some_iff.mp hz).1
      rwa [rgD_length] at this
    rw [rgD_get hlt] at hz
    cases hz
    exact q [.int (lo + k)] H' (Same.refl _) ⟨_, _, rfl, rfl, rfl⟩
  · obtain ⟨z, _, rfl⟩ := List.mem_map.mp hr; rfl
/-- a list that stands in the view -/
theorem src_list {K : PySem.W.Frag} {a : Addr} {ds : List Dt} {vs : List V} {i : Nat} {G : Hp} (ha : G a = some (.lst vs)) (r : Rps K G ds vs) : Src K (Itl K a) (gName i) [i] (ds.map one) G := by
  have at_ : ∀ {H}, Same G H → SqL K H a vs := fun s => .inl (.inl (s _ _ ha))
  refine ⟨fun H s => ⟨vs, at_ s, by rw [List.length_map, r.length]; exact Nat.le_refl _⟩, fun k H s h => ?_, fun k H x H' σ Q es s e y q => ?_, fun r hr => ?_⟩
  · rw [List.length_map, ← r.length] at h
    exact ⟨vs, vs[k], at_ s, by simp [h]⟩
  · obtain ⟨rfl, f⟩ := y
    rw [List.getElem?_map] at e
    obtain ⟨z, hz, rfl⟩ := Option.map_eq_some_iff.mp e
    obtain ⟨v, hv, rv⟩ := r.get hz
    have := f vs (at_ s)
    rw [hv] at this
    cases this
    exact q [x] H' (Same.refl _) ⟨_, _, rfl, rv, rfl⟩
  · obtain ⟨z, _, rfl⟩ := List.mem_map.mp hr; rfl
def zipD : List Dt → List Dt → List (List Dt)
  | x :: xs, y :: ys => [x, y] :: zipD xs ys
  | _, _ => []
theorem zipD_length : ∀ xs ys : List Dt, (zipD xs ys).length = min xs.length ys.length
  | [], _ => by simp [zipD]
  | _ :: _, [] => by simp [zipD]
  | x :: xs, y :: ys => by rw [zipD, List.length_cons, zipD_length xs ys, List.length_cons, List.length_cons]; omega
theorem zipD_get : ∀ {xs ys : List Dt} {i : Nat} {r : List Dt}, (zipD xs ys)[i]? = some r → ∃ x y, r = [x, y] ∧ xs[i]? = some x ∧ ys[i]? = some y
  | [], _, _, _, h => by simp [zipD] at h
  | _ :: _, [], _, _, h => by simp [zipD] at h
  | x :: xs, y :: ys, 0, r, h => by simp [zipD] at h; exact ⟨x, y, h.symm, rfl, rfl⟩
  | x :: xs, y :: ys, i + 1, r, h => by
    simp only [zipD, List.getElem?_cons_succ] at h
    obtain ⟨u, v, e, h1, h2⟩ := zipD_get h
    exact ⟨u, v, e, by simpa using h1, by simpa using h2⟩
theorem two_bind {K : PySem.W.Frag} {T : Addr} {x y : V} {i j : Nat} {H : Hp} {σ : L2.St} {Q : L2.St → Hp → Prop} (q : Q (setAll σ [i, j] [x, y]) (upd H T (.tup [x, y]))) : gTwo K i j (.ref T) σ (upd H T (.tup [x, y])) Q :=
  ⟨T, [x, y], rfl, .inl (.inl upd_same), rfl, x, [y], rfl, y, [], rfl, rfl, q⟩
theorem same_new {H : Hp} {p : Addr} {o : HO} (h : H p = none) : Same H (upd H p o) := fun b x e => by
  rw [upd_ne (ne_of_none e h)]
  exact e
theorem src_zip {K : PySem.W.Frag} {a b : Addr} {xs ys : List Dt} {vs ws : List V} {i j : Nat} {G : Hp} (ha : G a = some (.lst vs)) (hb : G b = some (.lst ws)) (r : Rps K G xs vs) (r' : Rps K G ys ws) : Src K (Itz K a b) (gTwo K i j) [i, j] (zipD xs ys) G := by
  have at_ : ∀ {H}, Same G H → SqL K H a vs := fun s => .inl (.inl (s _ _ ha))
  have bt_ : ∀ {H}, Same G H → SqL K H b ws := fun s => .inl (.inl (s _ _ hb))
  have l1 := r.length
  have l2 := r'.length
  refine ⟨fun H s => ⟨vs, ws, at_ s, bt_ s, by rw [zipD_length]; omega⟩, fun k H s h => ?_, fun k H x H' σ Q es s e y q => ?_, fun r hr => ?_⟩
  · rw [zipD_length] at h
    have h1 : k < vs.length := by omega
    have h2 : k < ws.length := by omega
    exact ⟨vs, ws, vs[k], ws[k], at_ s, bt_ s, by simp [h1], by simp [h2]⟩
  · obtain ⟨T, u, w, rfl, nT, rfl, f1, f2⟩ := y
    obtain ⟨d1, d2, rfl, e1, e2⟩ := zipD_get e
    obtain ⟨v1, h1, r1⟩ := r.get e1
    obtain ⟨v2, h2, r2⟩ := r'.get e2
    have q1 := f1 vs (at_ s)
    have q2 := f2 ws (bt_ s)
    rw [h1] at q1
    rw [h2] at q2
    cases q1
    cases q2
    exact two_bind (q [u, w] _ (same_new nT) ⟨_, _, rfl, r1, _, _, rfl, r2, rfl⟩)
  · obtain ⟨k, hk⟩ := List.mem_iff_getElem?.mp hr
    obtain ⟨d1, d2, rfl, _, _⟩ := zipD_get hk
    rfl
def enumD : Nat → List Dt → List (List Dt)
  | _, [] => []
  | k, d :: ds => [.int k, d] :: enumD (k + 1) ds
theorem enumD_length : ∀ (k : Nat) (ds : List Dt), (enumD k ds).length = ds.length
  | _, [] => rfl
  | k, d :: ds => by rw [enumD, List.length_cons, List.length_cons, enumD_length]
theorem enumD_get : ∀ {k : Nat} {ds : List Dt} {i : Nat} {r : List Dt}, (enumD k ds)[i]? = some r → ∃ d, r = [.int (k + i : Nat), d] ∧ ds[i]? = some d
  | _, [], _, _, h => by simp [enumD] at h
  | k, d :: ds, 0, r, h => by simp [enumD] at h; exact ⟨d, by rw [← h]; rfl, rfl⟩
  | k, d :: ds, i + 1, r, h => by
    simp only [enumD, List.getElem?_cons_succ] at h
    obtain ⟨u, e, h1⟩ := enumD_get h
    exact ⟨u, by rw [e, show k + 1 + i = k + (i + 1) by omega], by simpa using h1⟩
theorem src_enum {K : PySem.W.Frag} {a : Addr} {ds : List Dt} {vs : List V} {i j : Nat} {G : Hp} (ha : G a = some (.lst vs)) (r : Rps K G ds vs) : Src K (Ite K a) (gTwo K i j) [i, j] (enumD 0 ds) G := by
  have at_ : ∀ {H}, Same G H → SqL K H a vs := fun s => .inl (.inl (s _ _ ha))
  have l1 := r.length
  refine ⟨fun H s => ⟨vs, at_ s, by rw [enumD_length]; omega⟩, fun k H s h => ?_, fun k H x H' σ Q es s e y q => ?_, fun r hr => ?_⟩
  · rw [enumD_length] at h
    have h1 : k < vs.length := by omega
    exact ⟨vs, vs[k], at_ s, by simp [h1]⟩
  · obtain ⟨T, u, rfl, nT, rfl, f1⟩ := y
    obtain ⟨d1, rfl, e1⟩ := enumD_get e
    obtain ⟨v1, h1, r1⟩ := r.get e1
    have q1 := f1 vs (at_ s)
    rw [h1] at q1
    cases q1
    exact two_bind (q [.int (k : Nat), u] _ (same_new nT) ⟨_, _, rfl, by rw [Nat.zero_add]; rfl, _, _, rfl, r1, rfl⟩)
  · obtain ⟨k, hk⟩ := List.mem_iff_getElem?.mp hr
    obtain ⟨d1, rfl, _⟩ := enumD_get hk
    rfl

section
variable {X : Cx} {cm : Nat → Value} {E : L2.St → XK} {n : Nat} {a b c e elt tg iter : Expr} {es ifs : List Expr} {ma mb mc m me : Mr} {ms : Ev → Res (List Dt)} {mt : Ev → Res Bool} {pos p pos' : Pos}
def okR (b : Int) : Bool := decide (-(2 ^ 62) ≤ b) && decide (b < 2 ^ 62)
theorem okR_of {b : Int} (h : okR b = true) : -(2 ^ 62) ≤ b ∧ b < 2 ^ 62 := by
  unfold okR at h
  rw [Bool.and_eq_true] at h
  exact ⟨of_decide_eq_true h.1, of_decide_eq_true h.2⟩
def fIRg (x y : Dt) : Res (List (List Dt)) := match x, y with
  | .int a, .int b => guardR (okR a && okR b) (.ok ((rgD a b).map fun k => one (.int k)))
  | _, _ => .bad
def mIRg (ma mb : Mr) : Mi := fun Γ => (ma Γ).bind fun x => (mb Γ).bind fun y => fIRg x y
theorem guard_poI {K : PySem.W.Frag} {cm : Nat → Value} {E : XK} {g : TG} {slots : List Nat} {H G : Hp} {b : Bool} {r : Res (List (List Dt))} {R : It → Hp → Prop} (po : PostI K cm E g slots H G (guardR b r) R) : b = true ∧ PostI K cm E g slots H G r R := by
  cases b with
  | true => exact ⟨rfl, po⟩
  | false => exact (show False from po).elim
theorem di_rg1 {i : Nat} (hm : X.mg "range" = none) (ha : DE X cm E 0 a ma) (hg : Gl X "range" := by rfl) (hs : starEach [a] X.env = [(false, eval a X.env)] := by rfl) :
    DI X cm E tg (.Call (.Name "range" p) [a] [] pos) (gName i) [i] (mIRg (mC (.int 0)) ma) := by
  refine PI.of (pi_range1 hg hm (da_cons (n := 0) ha da_nil hs) hs) fun σ H R ⟨G, Γ, s, ev, po⟩ => ⟨G, Γ, s, ev, ?_⟩
  unfold mIRg mC at po
  rw [Res.bind_ok] at po
  unfold mCons
  cases hx : ma Γ with
  | bad => rw [hx] at po; exact po.elim
  | exc c => rw [hx] at po; exact po
  | ok x =>
    rw [hx, Res.bind_ok] at po
    intro vs H1 G1 L st _ _ ow
    obtain ⟨_, ow⟩ := Ows.zero_of ow
    obtain ⟨v, rfl, ow2⟩ := rps1 ow
    have po1 := po.step st
    cases x with
    | int b =>
      obtain ⟨hk, po1⟩ := guard_poI po1
      rw [Bool.and_eq_true] at hk
      obtain ⟨h1, h2⟩ := okR_of hk.2
      refine ⟨b, by rw [show v = _ from ow2], h1, h2, ?_⟩
      have S := src_range X.K 0 b i G1
      rw [Int.sub_zero] at S
      exact po1 _ H1 G1 (.refl st.s) S
    | _ => exact (show False from po1).elim
theorem di_rg2 {i : Nat} (hm : X.mg "range" = none) (ha : DE X cm E 0 a ma) (hb : DE X cm E 0 b mb) (hg : Gl X "range" := by rfl) (hs : starEach [a, b] X.env = [(false, eval a X.env), (false, eval b X.env)] := by rfl) (hs2 : starEach [b] X.env = [(false, eval b X.env)] := by rfl) :
    DI X cm E tg (.Call (.Name "range" p) [a, b] [] pos) (gName i) [i] (mIRg ma mb) := by
  refine PI.of (pi_range2 hg hm (da_cons (n := 0) ha (da_cons hb da_nil hs2) (by rw [hs, hs2])) hs hs2) fun σ H R ⟨G, Γ, s, ev, po⟩ => ⟨G, Γ, s, ev, ?_⟩
  unfold mIRg at po
  unfold mCons
  cases hx : ma Γ with
  | bad => rw [hx] at po; exact po.elim
  | exc c => rw [hx] at po; exact po
  | ok x =>
    rw [hx, Res.bind_ok] at po
    cases hy : mb Γ with
    | bad => rw [hy] at po; exact po.elim
    | exc c => rw [hy] at po; exact po
    | ok y =>
      rw [hy, Res.bind_ok] at po
      intro vs H1 G1 L st _ _ ow
      obtain ⟨_, ow⟩ := Ows.zero_of ow
      obtain ⟨v, w, rfl, ov, ow2⟩ := rps2 ow
      have po1 := po.step st
      cases x with
      | int a => cases y with
        | int b =>
          obtain ⟨hk, po1⟩ := guard_poI po1
          rw [Bool.and_eq_true] at hk
          obtain ⟨h1, h2⟩ := okR_of hk.1
          obtain ⟨h3, h4⟩ := okR_of hk.2
          exact ⟨a, b, by rw [show v = _ from ov, show w = _ from ow2], ⟨h1, h2, h3, h4⟩, po1 _ H1 G1 (.refl st.s) (src_range X.K a b i G1)⟩
        | _ => exact (show False from po1).elim
      | _ => exact (show False from po1).elim
def fIL : Dt → Res (List (List Dt))
  | .lst ds => .ok (ds.map one)
  | _ => .bad
def mIL (m : Mr) : Mi := fun Γ => (m Γ).bind fIL
theorem di_list {i : Nat} (h : DE X cm E 0 iter m) : DI X cm E tg iter (gName i) [i] (mIL m) := by
  refine PI.of (pi_list h) fun σ H R ⟨G, Γ, s, ev, po⟩ => ⟨G, Γ, s, ev, ?_⟩
  unfold mIL at po
  cases hx : m Γ with
  | bad => rw [hx] at po; exact po.elim
  | exc c => rw [hx] at po; exact po
  | ok x =>
    rw [hx, Res.bind_ok] at po
    intro v H1 G1 L st _ _ ow
    rw [Ow.zero] at ow
    have po1 := po.step st
    cases x with
    | lst ds =>
      obtain ⟨a, vs, e, g, r⟩ := ow.2
      exact ⟨a, e, ⟨vs, .inl (.inl (st.s _ _ g))⟩, po1 _ H1 G1 (.refl st.s) (src_list g r)⟩
    | _ => exact (show False from po1).elim
def fIZ : Dt → Dt → Res (List (List Dt))
  | .lst xs, .lst ys => .ok (zipD xs ys)
  | _, _ => .bad
def mIZ (ma mb : Mr) : Mi := fun Γ => (ma Γ).bind fun x => (mb Γ).bind fun y => fIZ x y
theorem di_zip {i j : Nat} {elts : List Expr} {kk : Nat} {tpos : Pos} (hm : X.mg "zip" = none) (ha : DE X cm E 0 a ma) (hb : DE X cm E 0 b mb) (hg : Gl X "zip" := by rfl)
    (hs : starEach [a, b] X.env = (false, eval a X.env) :: starEach [b] X.env := by rfl) (hs2 : starEach [b] X.env = (false, eval b X.env) :: starEach [] X.env := by rfl) (hpl : (backTo pos (starEach [b] X.env)).any (·.1) = false := by rfl) :
    DI X cm E (.Tuple elts kk tpos) (.Call (.Name "zip" p) [a, b] [] pos) (gTwo X.K i j) [i, j] (mIZ ma mb) := by
  refine PI.of (pi_zip hg hm (da_cons (n := 0) ha (da_cons hb da_nil hs2) hs) hs hpl) fun σ H R ⟨G, Γ, s, ev, po⟩ => ⟨G, Γ, s, ev, ?_⟩
  unfold mIZ at po
  unfold mCons
  cases hx : ma Γ with
  | bad => rw [hx] at po; exact po.elim
  | exc c => rw [hx] at po; exact po
  | ok x =>
    rw [hx, Res.bind_ok] at po
    cases hy : mb Γ with
    | bad => rw [hy] at po; exact po.elim
    | exc c => rw [hy] at po; exact po
    | ok y =>
      rw [hy, Res.bind_ok] at po
      intro vs H1 G1 L st _ _ ow
      obtain ⟨_, ow⟩ := Ows.zero_of ow
      obtain ⟨v, w, rfl, ov, ow2⟩ := rps2 ow
      have po1 := po.step st
      cases x with
      | lst xs => cases y with
        | lst ys =>
          obtain ⟨a, us, e1, g1, r1⟩ := ov
          obtain ⟨b, ws, e2, g2, r2⟩ := ow2
          exact ⟨a, b, us, ws, by rw [e1, e2], .inl (.inl (st.s _ _ g1)), .inl (.inl (st.s _ _ g2)), po1 _ H1 G1 (.refl st.s) (src_zip g1 g2 r1 r2)⟩
        | _ => exact (show False from po1).elim
      | _ => exact (show False from po1).elim
def fIE : Dt → Res (List (List Dt))
  | .lst ds => .ok (enumD 0 ds)
  | _ => .bad
def mIE (m : Mr) : Mi := fun Γ => (m Γ).bind fIE
theorem di_enum {i j : Nat} {elts : List Expr} {kk : Nat} {tpos : Pos} (hm : X.mg "enumerate" = none) (ha : DE X cm E 0 a ma) (hg : Gl X "enumerate" := by rfl) (hs : starEach [a] X.env = [(false, eval a X.env)] := by rfl) :
    DI X cm E (.Tuple elts kk tpos) (.Call (.Name "enumerate" p) [a] [] pos) (gTwo X.K i j) [i, j] (mIE ma) := by
  refine PI.of (pi_enum hg hm (da_cons (n := 0) ha da_nil hs) hs) fun σ H R ⟨G, Γ, s, ev, po⟩ => ⟨G, Γ, s, ev, ?_⟩
  unfold mIE at po
  unfold mCons
  cases hx : ma Γ with
  | bad => rw [hx] at po; exact po.elim
  | exc c => rw [hx] at po; exact po
  | ok x =>
    rw [hx, Res.bind_ok] at po
    intro vs H1 G1 L st _ _ ow
    obtain ⟨_, ow⟩ := Ows.zero_of ow
    obtain ⟨v, rfl, ow2⟩ := rps1 ow
    have po1 := po.step st
    cases x with
    | lst xs =>
      obtain ⟨a, us, e1, g1, r1⟩ := ow2
      exact ⟨a, us, by rw [e1], .inl (.inl (st.s _ _ g1)), po1 _ H1 G1 (.refl st.s) (src_enum g1 r1)⟩
    | _ => exact (show False from po1).elim
end
end DL

set_option Elab.async false
set_option linter.all false
set_option maxRecDepth 100000
set_option maxHeartbeats 1000000
namespace DL
open PySem PySem.Spec PyProof.Rows L2

theorem setAll_length (σ : L2.St) : ∀ (is : List Nat) (vs : List V), (setAll σ is vs).length = σ.length := by
  intro is
  induction is generalizing σ with
  | nil => intro vs; rfl
  | cons i is ih =>
    intro vs
    cases vs with
    | nil => rfl
    | cons v vs => show (setAll (σ.set i (some v)) is vs).length = _; rw [ih, List.length_set]
theorem bindAll_length (Γ : Ev) : ∀ (is : List Nat) (ds : List Dt), (bindAll Γ is ds).length = Γ.length := by
  intro is
  induction is generalizing Γ with
  | nil => intro ds; rfl
  | cons i is ih =>
    intro ds
    cases ds with
    | nil => rfl
    | cons d ds => show (bindAll (Γ.set i (some d)) is ds).length = _; rw [ih, List.length_set]
/-- the slots are bound anew: what they held does not matter -/
theorem EvR.bind {K : PySem.W.Frag} {G : Hp} : ∀ {is : List Nat} {ds : List Dt} {vs : List V} {Γ : Ev} {σ : L2.St},
    (∀ (j : Nat) (d : Dt), j ∉ is → Γ[j]? = some (some d) → ∃ v, σ[j]? = some (some v) ∧ Rp K G d v) → Γ.length = σ.length → Rps K G ds vs → ds.length = is.length → EvR K G (bindAll Γ is ds) (setAll σ is vs) := by
  intro is
  induction is with
  | nil => intro ds vs Γ σ h hl _ _; exact ⟨fun j d e => h j d (by simp) e, hl⟩
  | cons i is ih =>
    intro ds vs Γ σ h hl r hd
    cases ds with
    | nil => cases hd
    | cons d ds =>
      obtain ⟨v, t, rfl, g, q⟩ := r
      show EvR K G (bindAll (Γ.set i (some d)) is ds) (setAll (σ.set i (some v)) is t)
      refine ih (fun j d' hj e => ?_) (by rw [List.length_set, List.length_set]; exact hl) q (Nat.succ.inj hd)
      by_cases hji : i = j
      · subst hji
        by_cases hlt : i < Γ.length
        · rw [List.getElem?_set_self hlt] at e
          cases e
          exact ⟨v, List.getElem?_set_self (by omega), g⟩
        · rw [List.getElem?_eq_none (by rw [List.length_set]; omega)] at e; cases e
      · rw [List.getElem?_set_ne hji] at e ⊢
        exact h j d' (by simp only [List.mem_cons, not_or]; exact ⟨fun z => hji z.symm, hj⟩) e
theorem wipe_get {σ : L2.St} {j : Nat} : ∀ {vs : List Nat}, j ∉ vs → (wipe σ vs)[j]? = σ[j]?
  | [], _ => rfl
  | v :: vs, h => by
    simp only [List.mem_cons, not_or] at h
    unfold wipe
    rw [List.getElem?_set_ne (fun z => h.1 z.symm), wipe_get h.2]
theorem wipe_set {σ : L2.St} {i : Nat} {x : Option V} : ∀ {vs : List Nat}, i ∈ vs → wipe (σ.set i x) vs = wipe σ vs
  | v :: vs, h => by
    unfold wipe
    by_cases hv : i = v
    · subst hv
      by_cases hm : i ∈ vs
      · rw [wipe_set hm]
      · clear h
        have go : ∀ {us : List Nat}, i ∉ us → wipe (σ.set i x) us = (wipe σ us).set i x := by
          intro us
          induction us with
          | nil => intro _; rfl
          | cons u us ih =>
            intro hu
            simp only [List.mem_cons, not_or] at hu
            unfold wipe
            rw [ih hu.2, List.set_comm _ _ hu.1]
        rw [go hm, List.set_set]
    · rcases List.mem_cons.mp h with z | z
      · exact absurd z hv
      · rw [wipe_set z]
theorem wipe_setAll : ∀ {is : List Nat} {us : List V} {σ : L2.St} {vs : List Nat}, (∀ i ∈ is, i ∈ vs) → wipe (setAll σ is us) vs = wipe σ vs := by
  intro is
  induction is with
  | nil => intro us σ vs _; rfl
  | cons i is ih =>
    intro us σ vs h
    cases us with
    | nil => rfl
    | cons u us =>
      show wipe (setAll (σ.set i (some u)) is us) vs = _
      rw [ih fun j hj => h j (List.mem_cons_of_mem _ hj), wipe_set (h i List.mem_cons_self)]
theorem wipe_wipe (σ : L2.St) (vs : List Nat) : wipe (wipe σ vs) vs = wipe σ vs := by
  have go : ∀ us : List Nat, (∀ u ∈ us, u ∈ vs) → wipe (wipe σ us) vs = wipe σ vs := by
    intro us
    induction us with
    | nil => intro _; rfl
    | cons u us ih =>
      intro h
      show wipe ((wipe σ us).set u none) vs = _
      rw [wipe_set (h u List.mem_cons_self), ih fun w hw => h w (List.mem_cons_of_mem _ hw)]
  exact go vs fun u hu => hu

/-! ### list comprehensions -/
def DTs (X : Cx) (cm : Nat → Value) (E : L2.St → XK) (ifs : List Expr) (m : Ev → Res Bool) : Prop := PTs X ifs (tDT X.K cm E m)
theorem PTs.of {X : Cx} {ifs : List Expr} {t t' : TT} (h : PTs X ifs t) (w : ∀ σ H Q, t' σ H Q → t σ H Q) : PTs X ifs t' := ⟨fun pins s σ H Q I q => h.run pins s σ H Q I (w σ H Q q)⟩
def bYes : Ev → Res Bool := fun _ => .ok true
theorem dts_nil {X : Cx} {cm : Nat → Value} {E : L2.St → XK} : DTs X cm E [] bYes := PTs.of pts_nil fun σ H Q ⟨G, Γ, s, ev, po⟩ => po H G (.refl s)
theorem dts_one {X : Cx} {cm : Nat → Value} {E : L2.St → XK} {c : Expr} {m : Ev → Res Bool} (h : DT X cm E c m) : DTs X cm E [c] m := pts_one h
def lcL (slots : List Nat) (mt : Ev → Res Bool) (me : Mr) (Γ : Ev) : List (List Dt) → Res (List Dt)
  | [] => .ok []
  | r :: rs => (noX (mt (bindAll Γ slots r))).bind fun b =>
      if b = true then (noX (me (bindAll Γ slots r))).bind fun d => (lcL slots mt me Γ rs).bind fun ds => .ok (d :: ds)
      else lcL slots mt me Γ rs
def mLc (mi : Mi) (slots : List Nat) (mt : Ev → Res Bool) (me : Mr) : Mr := fun Γ => (mi Γ).bind fun rows => guardR (decide (rows.length ≤ 16777216)) ((lcL slots mt me Γ rows).bind fun ds => .ok (.lst ds))
abbrev Ef : L2.St → XK := fun _ _ _ _ => False
theorem noX_inv {α β : Type} {r : Res α} {f : α → Res β} {b : β} (h : (noX r).bind f = .ok b) : ∃ a, r = .ok a ∧ f a = .ok b := by
  cases r with
  | ok a => exact ⟨a, rfl, h⟩
  | exc c => cases h
  | bad => cases h
theorem bind_inv {α β : Type} {r : Res α} {f : α → Res β} {b : β} (h : r.bind f = .ok b) : ∃ a, r = .ok a ∧ f a = .ok b := by
  cases r with
  | ok a => exact ⟨a, rfl, h⟩
  | exc c => cases h
  | bad => cases h
theorem lcL_exc {slots : List Nat} {mt : Ev → Res Bool} {me : Mr} {Γ : Ev} : ∀ {rows : List (List Dt)} {c : Nat}, lcL slots mt me Γ rows ≠ .exc c
  | [], c, h => by cases h
  | r :: rs, c, h => by
    unfold lcL at h
    cases h1 : mt (bindAll Γ slots r) with
    | bad => rw [h1] at h; cases h
    | exc c => rw [h1] at h; cases h
    | ok b =>
      rw [h1, noX_ok, Res.bind_ok] at h
      cases b with
      | false => rw [if_neg Bool.false_ne_true] at h; exact lcL_exc h
      | true =>
        rw [if_pos rfl] at h
        cases h2 : me (bindAll Γ slots r) with
        | bad => rw [h2] at h; cases h
        | exc c => rw [h2] at h; cases h
        | ok d =>
          rw [h2, noX_ok, Res.bind_ok] at h
          cases h3 : lcL slots mt me Γ rs with
          | bad => rw [h3] at h; cases h
          | exc c => exact lcL_exc h3
          | ok ds => rw [h3] at h; cases h

theorem apart1 {H1 G1 H' G' : Hp} (st : Stp H1 G1 H' G') {a : Addr} {o : HO} (h : H1 a = some o) (g : G1 a = none) : G' a = none := by
  cases e : G' a with
  | none => rfl
  | some u =>
    rcases st.new a u e with ⟨w, q⟩ | q
    · rw [g] at q; cases q
    · rw [h] at q; cases q
/-- a comprehension's list so far: at D, beside the view; what it holds is owned to the depth n -/
structure LcSt (K : PySem.W.Frag) (n : Nat) (H0 G0 : Hp) (D : Addr) (ds : List Dt) (vs : List V) (L : List Addr) (H G : Hp) : Prop where
  st : Stp H0 G0 H G
  d0 : H0 D = none
  at_ : H D = some (.lst vs)
  dg : G D = none
  nd : L.Nodup
  fr : ∀ a ∈ L, H0 a = none ∧ G a = none
  dl : D ∉ L
  ow : Ows (Ow K H G n) ds vs L
section
variable {X : Cx} {cm : Nat → Value} {E : L2.St → XK} {n : Nat} {elt tg iter : Expr} {ifs : List Expr} {me : Mr} {mt : Ev → Res Bool} {mi : Mi} {pos : Pos} {g : TG} {slots : List Nat} {scope : Scope} {own : List (Str × Nat)}
theorem tlc_ok {K : PySem.W.Frag} {σ : L2.St} {H G : Hp} {Γ : Ev} {Q : VK} (hs : own.map (·.2) = slots) (s : Same G H) (ev : EvR K G Γ σ) (po : Post K cm (E σ) (n + 1) H G (mLc mi slots mt me Γ) Q) :
    tLc (tDI K cm E g slots mi) g (tDT K cm Ef mt) (tD K cm Ef n me) (own.map (·.2)) σ H Q := by
  rw [hs]
  refine ⟨G, Γ, s, ev, ?_⟩
  unfold mLc at po
  cases hx : mi Γ with
  | bad => rw [hx] at po; exact po.elim
  | exc c => rw [hx] at po; exact po
  | ok rows =>
    rw [hx, Res.bind_ok] at po
    obtain ⟨hz, po⟩ := guard_po po
    have hz := of_decide_eq_true hz
    cases hall : lcL slots mt me Γ rows with
    | bad => rw [hall] at po; exact po.elim
    | exc c => exact (lcL_exc hall).elim
    | ok full =>
      rw [hall, Res.bind_ok] at po
      intro J H1 G1 st0 S D nD
      have hlen : ∀ r ∈ rows, r.length = slots.length := S.len
      refine ⟨fun i m H => i + m = rows.length ∧ ∃ ds vs L G', LcSt K n H1 G1 D ds vs L H G' ∧ vs.length ≤ i ∧ ∃ rest, lcL slots mt me Γ (rows.drop i) = .ok rest ∧ ds ++ rest = full,
        ⟨rows.length, by omega, [], [], [], G1, ⟨.newH st0.s nD _, nD, upd_same, none_back st0.s nD, List.nodup_nil, fun a ha => (nomatch ha), by simp, rfl, rfl⟩, Nat.le_refl _, full, hall, rfl⟩, ?_⟩
      rintro i m H2 ⟨him, ds, vs, L, G2, B, hvi, rest, hrest, hfull⟩
      have sg : Same G1 G2 := B.st.g
      have S2 := S.mono sg
      by_cases hi : i < rows.length
      · right
        refine ⟨S2.go i H2 B.st.s hi, fun H' => ∃ ds vs L G', LcSt K n H1 G1 D ds vs L H' G' ∧ vs.length ≤ i + 1 ∧ ∃ rest, lcL slots mt me Γ (rows.drop (i + 1)) = .ok rest ∧ ds ++ rest = full, fun H' h' => ⟨m - 1, by omega, by omega, h'⟩, fun x H3 y => ?_⟩
        have hrow : rows[i]? = some rows[i] := List.getElem?_eq_getElem hi
        refine S2.bind i H2 x H3 (wipe σ slots) _ rows[i] B.st.s hrow y fun ws H4 s4 r4 => ⟨by rw [wipe_setAll (fun i hi => hi), wipe_wipe], ?_⟩
        have hd : rows.drop i = rows[i] :: rows.drop (i + 1) := List.drop_eq_getElem_cons hi
        rw [hd] at hrest
        unfold lcL at hrest
        obtain ⟨b, hb, hrest⟩ := noX_inv hrest
        have sG4 : Same G2 H4 := B.st.s.trans s4
        have ev4 : EvR K G2 (bindAll Γ slots rows[i]) (setAll (wipe σ slots) slots ws) :=
          EvR.bind (fun j d hj e => by
            rw [wipe_get hj]
            obtain ⟨v, h1, h2⟩ := ev.at_ j d e
            exact ⟨v, h1, (h2.mono st0.g).mono sg⟩) (by rw [wipe_length]; exact ev.len) r4 (hlen _ (List.getElem_mem hi))
        refine ⟨G2, bindAll Γ slots rows[i], sG4, ev4, ?_⟩
        rw [hb]
        intro H5 G5 st5
        -- behind the test: what was built stands
        have stA : Stp H2 G2 H4 G2 := ⟨s4, Same.refl _, sG4, fun a o e => .inl ⟨o, e⟩⟩
        have stB := stA.trans st5
        have keep : ∀ {H6 G6 : Hp}, Stp H2 G2 H6 G6 → LcSt K n H1 G1 D ds vs L H6 G6 := fun {H6 G6} t =>
          have th : ∀ a ∈ L, ∃ o, H2 a = some o := Ows.there (fun d v L o => Ow.there o) B.ow
          ⟨B.st.trans t, B.d0, t.h _ _ B.at_, apart1 t B.at_ B.dg,
            B.nd, fun a ha => ⟨(B.fr a ha).1, apart t th (fun b hb => (B.fr b hb).2) a ha⟩, B.dl, B.ow.mono fun d v L o => o.mono t.h t.g⟩
        cases b with
        | false =>
          rw [if_neg Bool.false_ne_true] at hrest ⊢
          exact ⟨ds, vs, L, G5, keep stB, by omega, rest, hrest, hfull⟩
        | true =>
          rw [if_pos rfl] at hrest ⊢
          obtain ⟨d, hd2, hrest⟩ := noX_inv hrest
          obtain ⟨rest', hr', he⟩ := bind_inv hrest
          cases he
          refine ⟨G5, bindAll Γ slots rows[i], st5.s, ev4.mono st5.g, ?_⟩
          rw [hd2]
          intro v H6 G6 L6 st6 nd6 fr6 ow6
          have B6 := keep (stB.trans st6)
          have th : ∀ a ∈ L, ∃ o, H5 a = some o := fun a ha => by
            obtain ⟨o, e⟩ := Ows.there (fun d v L o => Ow.there o) B.ow a ha
            exact ⟨o, stB.h _ _ e⟩
          have D5 : H5 D = some (.lst vs) := stB.h _ _ B.at_
          have nL6 : D ∉ L6 := fun h => by rw [(fr6 D h).1] at D5; cases D5
          refine ⟨vs, B6.at_, by rw [sizeLine_eq]; omega, ds ++ [d], vs ++ [v], L ++ L6, G6, ?_, by rw [List.length_append, List.length_singleton]; omega, rest', hr', by rw [List.append_assoc]; exact hfull⟩
          have stw : Same H1 (upd H6 D (.lst (vs ++ [v]))) := fun a o e => by
            rw [upd_ne (ne_of_none e B.d0)]
            exact B6.st.h _ _ e
          have sgw : Same G6 (upd H6 D (.lst (vs ++ [v]))) := fun a o e => by
            have ne : a ≠ D := fun z => by rw [z, B6.dg] at e; cases e
            rw [upd_ne ne]
            exact B6.st.s _ _ e
          have nDL : D ∉ L ++ L6 := fun h => (List.mem_append.mp h).elim B.dl nL6
          refine ⟨⟨stw, B6.st.g, sgw, B6.st.new⟩, B.d0, upd_same, B6.dg, two_nd B.nd nd6 th fun a ha => (fr6 a ha).1, fun a ha => ?_, nDL, ?_⟩
          · rcases List.mem_append.mp ha with ha | ha
            · exact B6.fr a ha
            · exact ⟨none_back B.st.h (none_back stB.h (fr6 a ha).1), (fr6 a ha).2⟩
          · refine Ows.snoc ?_ ?_
            · exact ow6.move (Same.refl _) fun a ha o e => by
                rw [upd_ne (fun z => nL6 (by rw [← z]; exact ha))]; exact e
            · exact B6.ow.monoL fun d v L1 hs o => o.move (Same.refl _) fun a ha u e => by
                rw [upd_ne (fun z => B.dl (by rw [← z]; exact hs a ha))]; exact e
      · left
        have e : i = rows.length := by omega
        subst e
        refine ⟨S2.stop H2 B.st.s, ?_⟩
        have er : rest = [] := by
          rw [List.drop_length] at hrest
          cases hrest; rfl
        subst er
        rw [List.append_nil] at hfull
        subst hfull
        exact po (.ref D) H2 G2 (D :: L) (st0.trans B.st) (List.nodup_cons.mpr ⟨B.dl, B.nd⟩) (fun a ha => by
          rcases List.mem_cons.mp ha with rfl | ha
          · exact ⟨none_back st0.h B.d0, B.dg⟩
          · exact ⟨none_back st0.h (B.fr a ha).1, (B.fr a ha).2⟩) ⟨D, vs, L, rfl, B.at_, rfl, B.ow⟩
theorem de_lc (hc : X.calm = true) (hN : X.N.Nodup) (hi : DI X cm E tg iter g slots mi) (ok : BlkOk X.N X.env.scope scope own) (hsl : own.map (·.2) = slots)
    (hg : ∀ (s : Shared) (H : Hp) (C : Addr) (cl : List (Str × Addr)) (fp : List Addr), PG (X.blk s H scope (compEnvC scope cl C X.env) fp) tg g)
    (ht : ∀ (s : Shared) (H : Hp) (C : Addr) (cl : List (Str × Addr)) (fp : List Addr), DTs (X.blk s H scope (compEnvC scope cl C X.env) fp) cm Ef ifs mt)
    (he : ∀ (s : Shared) (H : Hp) (C : Addr) (cl : List (Str × Addr)) (fp : List Addr), DE (X.blk s H scope (compEnvC scope cl C X.env) fp) cm Ef n elt me) (hs : ∀ x, foldedSetIterable iter X.env x = pure x := by intro _; rfl) :
    DE X cm E (n + 1) (.ListComp elt [⟨tg, iter, ifs, 0⟩] scope pos) (mLc mi slots mt me) :=
  PE.of (pe_lc (own := own) (tt := tDT X.K cm Ef mt) (te := tD X.K cm Ef n me) hc hN hi ok hg ht he hs) fun σ H Q ⟨G, Γ, s, ev, po⟩ => tlc_ok hsl s ev po
end
end DL

set_option Elab.async false
set_option linter.all false
set_option maxRecDepth 100000
set_option maxHeartbeats 1000000
namespace DL
open PySem PySem.Spec PyProof.Rows L2

/-! ### the state between statements -/
inductive Out where
  | nx (Γ : Ev)
  | ret (d : Dt)
  | exc (c : Nat)
  | bad
abbrev Ms := Ev → Out
def lv (O : List Nat) (i : Nat) : Nat := O.getD i 0
/-- the view that is left beside the owned objects S (and what stood at the entry outside its view) -/
def Vw (H0 G0 : Hp) (S : List Addr) (H : Hp) : Hp := fun a => if a ∈ S ∨ ((G0 a).isSome = false ∧ (H0 a).isSome = true) then none else H a
section
variable {H0 G0 H H' G : Hp} {S S' : List Addr} {a : Addr} {o : HO}
theorem Vw.of (h : a ∉ S) (n : (∃ u, G0 a = some u) ∨ H0 a = none) (e : H a = some o) : Vw H0 G0 S H a = some o := by
  unfold Vw
  rw [if_neg]
  · exact e
  · rintro (q | ⟨q1, q2⟩)
    · exact h q
    · rcases n with ⟨u, n⟩ | n
      · rw [n] at q1; cases q1
      · rw [n] at q2; cases q2
theorem Vw.inv (e : Vw H0 G0 S H a = some o) : a ∉ S ∧ ((∃ u, G0 a = some u) ∨ H0 a = none) ∧ H a = some o := by
  unfold Vw at e
  split at e
  · cases e
  · rename_i h
    refine ⟨fun q => h (.inl q), ?_, e⟩
    cases hg : G0 a with
    | some u => exact .inl ⟨u, rfl⟩
    | none =>
      right
      cases hh : H0 a with
      | none => rfl
      | some u => exact (h (.inr ⟨by rw [hg]; rfl, by rw [hh]; rfl⟩)).elim
theorem Vw.same : Same (Vw H0 G0 S H) H := fun a o e => (Vw.inv e).2.2
theorem Vw.mono (h : Same H H') (hs : ∀ a ∈ S', (∃ o, H a = some o) → a ∈ S) : Same (Vw H0 G0 S H) (Vw H0 G0 S' H') := fun a o e =>
  let ⟨h1, h2, h3⟩ := Vw.inv e
  Vw.of (fun q => h1 (hs a q ⟨o, h3⟩)) h2 (h _ _ h3)
end
structure SIw (K : PySem.W.Frag) (H0 G0 : Hp) (O : List Nat) (Ls : Nat → List Addr) (S : List Addr) (Γ : Ev) (σ : L2.St) (H : Hp) : Prop where
  h0 : Same H0 H
  g0 : Same G0 H
  own : ∀ a ∈ S, H0 a = none ∧ G0 a = none ∧ ∃ o, H a = some o
  sub : ∀ i, ∀ a ∈ Ls i, a ∈ S
  nd : ∀ i, (Ls i).Nodup
  dj : ∀ i j, i ≠ j → ∀ a ∈ Ls i, a ∉ Ls j
  rep : ∀ (i : Nat) (d : Dt), Γ[i]? = some (some d) → ∃ v, σ[i]? = some (some v) ∧ Ow K H (Vw H0 G0 S H) (lv O i) d v (Ls i)
  len : Γ.length = σ.length
def SI (K : PySem.W.Frag) (H0 G0 : Hp) (O : List Nat) (Γ : Ev) (σ : L2.St) (H : Hp) : Prop := ∃ Ls S, SIw K H0 G0 O Ls S Γ σ H
/-- the names that are not owned -/
def mask : List Nat → Ev → Ev
  | _, [] => []
  | [], Γ => Γ
  | 0 :: O, x :: Γ => x :: mask O Γ
  | (_ + 1) :: O, _ :: Γ => none :: mask O Γ
theorem mask_get : ∀ {O : List Nat} {Γ : Ev} {i : Nat} {d : Dt}, (mask O Γ)[i]? = some (some d) → lv O i = 0 ∧ Γ[i]? = some (some d)
  | O, [], i, d, h => by cases O <;> simp [mask] at h
  | [], x :: Γ, i, d, h => ⟨by simp [lv], h⟩
  | 0 :: O, x :: Γ, 0, d, h => ⟨rfl, h⟩
  | 0 :: O, x :: Γ, i + 1, d, h => mask_get (O := O) (Γ := Γ) (i := i) (by simpa [mask] using h)
  | (k + 1) :: O, x :: Γ, 0, d, h => by simp [mask] at h
  | (k + 1) :: O, x :: Γ, i + 1, d, h => mask_get (O := O) (Γ := Γ) (i := i) (by simpa [mask] using h)
theorem mask_length : ∀ (O : List Nat) (Γ : Ev), (mask O Γ).length = Γ.length
  | O, [] => by cases O <;> rfl
  | [], x :: Γ => rfl
  | 0 :: O, x :: Γ => by rw [mask, List.length_cons, List.length_cons, mask_length O Γ]
  | (k + 1) :: O, x :: Γ => by rw [mask, List.length_cons, List.length_cons, mask_length O Γ]

/-- an answer that leaves a def, as its caller wants it -/
def RetOk (K : PySem.W.Frag) (nr : Nat) (H0 G0 : Hp) (d : Dt) (v : V) (H' : Hp) : Prop :=
  ∃ G' L, Stp H0 G0 H' G' ∧ L.Nodup ∧ (∀ a ∈ L, H0 a = none ∧ G' a = none) ∧ Ow K H' G' nr d v L
def SPost (K : PySem.W.Frag) (cm : Nat → Value) (W : WX) (nr : Nat) (H0 G0 : Hp) (O : List Nat) (o : Out) (D : Ends) : Prop := match o with
  | .nx Γ => ∀ σ' H', SI K H0 G0 O Γ σ' H' → D.nx σ' H'
  | .ret d => ∀ v H', RetOk K nr H0 G0 d v H' → D.rt v H'
  | .exc c => ∀ σ' H', Same H0 H' → W (cm c) none σ' H'
  | .bad => False
def tS (K : PySem.W.Frag) (cm : Nat → Value) (W : WX) (nr : Nat) (O O' : List Nat) (m : Ms) : TS := fun D σ H => ∃ H0 G0 Γ, SI K H0 G0 O Γ σ H ∧ SPost K cm W nr H0 G0 O' (m Γ) D
def DS (X : Cx) (cm : Nat → Value) (W : WX) (nr : Nat) (O O' : List Nat) (st : Stmt) (m : Ms) : Prop := PS X st (tS X.K cm W nr O O' m)
def DSs (X : Cx) (cm : Nat → Value) (W : WX) (nr : Nat) (O O' : List Nat) (st : List Stmt) (m : Ms) : Prop := PSs X st (tS X.K cm W nr O O' m)
theorem PS.of {X : Cx} {st : Stmt} {t t' : TS} (h : PS X st t) (w : ∀ D σ H, t' D σ H → t D σ H) : PS X st t' := ⟨fun pins s σ H D I q => h.run pins s σ H D I (w D σ H q)⟩
theorem PSs.of {X : Cx} {st : List Stmt} {t t' : TS} (h : PSs X st t) (w : ∀ D σ H, t' D σ H → t D σ H) : PSs X st t' := ⟨fun pins s σ H D I q => h.run pins s σ H D I (w D σ H q)⟩

section
variable {K : PySem.W.Frag} {H0 G0 H H' G : Hp} {O O' : List Nat} {Ls : Nat → List Addr} {S : List Addr} {Γ : Ev} {σ : L2.St}
/-- the heap grows -/
theorem SIw.grow (I : SIw K H0 G0 O Ls S Γ σ H) (h : Same H H') : SIw K H0 G0 O Ls S Γ σ H' :=
  ⟨I.h0.trans h, I.g0.trans h, fun a ha => ⟨(I.own a ha).1, (I.own a ha).2.1, let ⟨o, e⟩ := (I.own a ha).2.2; ⟨o, h _ _ e⟩⟩, I.sub, I.nd, I.dj,
    fun i d e => let ⟨v, h1, h2⟩ := I.rep i d e; ⟨v, h1, h2.mono h (Vw.mono h fun a q _ => q)⟩, I.len⟩
theorem SIw.g0v (I : SIw K H0 G0 O Ls S Γ σ H) : Same G0 (Vw H0 G0 S H) := fun a o e =>
  Vw.of (fun q => by have := (I.own a q).2.1; rw [e] at this; cases this) (.inl ⟨o, e⟩) (I.g0 _ _ e)
/-- all names, in the view with the owned objects -/
theorem SIw.all (I : SIw K H0 G0 O Ls S Γ σ H) : EvR K (Vw H0 G0 [] H) Γ σ :=
  ⟨fun i d e => let ⟨v, h1, h2⟩ := I.rep i d e; ⟨v, h1, h2.rp (Vw.mono (Same.refl _) fun a q _ => by cases q) fun a ha o e => Vw.of (by simp) (.inr (I.own a (I.sub i a ha)).1) e⟩, I.len⟩
theorem SIw.some_ (I : SIw K H0 G0 O Ls S Γ σ H) : EvR K (Vw H0 G0 S H) (mask O Γ) σ :=
  ⟨fun i d e => by
    obtain ⟨h1, h2⟩ := mask_get e
    obtain ⟨v, h3, h4⟩ := I.rep i d h2
    rw [h1, Ow.zero] at h4
    exact ⟨v, h3, h4.2⟩, by rw [mask_length]; exact I.len⟩
/-- a slot is given a new value, owned at L -/
theorem SIw.put {i n : Nat} {d : Dt} {v : V} {L : List Addr} (I : SIw K H0 G0 O Ls S Γ σ H) (nd : L.Nodup) (fr : ∀ a ∈ L, H0 a = none ∧ G0 a = none ∧ a ∉ S ∧ ∃ o, H a = some o)
    (nv : ∀ j, j ≠ i → ∀ d, Γ[j]? = some (some d) → ∃ v, σ[j]? = some (some v) ∧ Ow K H (Vw H0 G0 (L ++ S) H) (lv O j) d v (Ls j)) (ow : Ow K H (Vw H0 G0 (L ++ S) H) n d v L) (hO : lv O' i = n) (hO2 : ∀ j, j ≠ i → lv O' j = lv O j) :
    SIw K H0 G0 O' (fun j => if j = i then L else Ls j) (L ++ S) (Γ.set i (some d)) (σ.set i (some v)) H := by
  refine ⟨I.h0, I.g0, fun a ha => ?_, fun j a ha => ?_, fun j => ?_, fun j k hjk a ha => ?_, fun j d' e => ?_, by rw [List.length_set, List.length_set]; exact I.len⟩
  · rcases List.mem_append.mp ha with ha | ha
    · exact ⟨(fr a ha).1, (fr a ha).2.1, (fr a ha).2.2.2⟩
    · exact I.own a ha
  · by_cases hj : j = i
    · rw [if_pos hj] at ha; exact List.mem_append_left _ ha
    · rw [if_neg hj] at ha; exact List.mem_append_right _ (I.sub j a ha)
  · skip
    split
    · exact nd
    · exact I.nd j
  · skip
    by_cases hj : j = i
    · rw [if_pos hj] at ha
      have hk : k ≠ i := fun z => hjk (hj.trans z.symm)
      rw [if_neg hk]
      exact fun q => (fr a ha).2.2.1 (I.sub k a q)
    · rw [if_neg hj] at ha
      by_cases hk : k = i
      · rw [if_pos hk]
        exact fun q => (fr a q).2.2.1 (I.sub j a ha)
      · rw [if_neg hk]
        exact I.dj j k hjk a ha
  · by_cases hj : j = i
    · subst hj
      by_cases hlt : j < Γ.length
      · rw [List.getElem?_set_self hlt] at e
        cases e
        refine ⟨v, List.getElem?_set_self (by have := I.len; omega), ?_⟩
        rw [if_pos rfl, hO]
        exact ow
      · rw [List.getElem?_eq_none (by rw [List.length_set]; omega)] at e; cases e
    · rw [List.getElem?_set_ne (fun z => hj z.symm)] at e ⊢
      obtain ⟨u, h1, h2⟩ := nv j hj d' e
      refine ⟨u, h1, ?_⟩
      rw [if_neg hj, hO2 j hj]
      exact h2
/-- .. where the new owned objects came behind the state: no other slot speaks of them -/
theorem SIw.store {i n : Nat} {d : Dt} {v : V} {L : List Addr} (I : SIw K H0 G0 O Ls S Γ σ H) (hh : Same H H') (nd : L.Nodup) (fr : ∀ a ∈ L, H a = none ∧ ∃ o, H' a = some o) (ow : Ow K H' (Vw H0 G0 (L ++ S) H') n d v L) (hO : lv O' i = n) (hO2 : ∀ j, j ≠ i → lv O' j = lv O j) :
    SI K H0 G0 O' (Γ.set i (some d)) (σ.set i (some v)) H' := by
  refine ⟨_, _, (I.grow hh).put nd (fun a ha => ?_) (fun j hj d e => ?_) ow hO hO2⟩
  · have n := (fr a ha).1
    refine ⟨none_back I.h0 n, none_back I.g0 n, fun q => ?_, (fr a ha).2⟩
    obtain ⟨o, e⟩ := (I.own a q).2.2
    rw [n] at e; cases e
  · obtain ⟨u, h1, h2⟩ := I.rep j d e
    refine ⟨u, h1, h2.mono hh (Vw.mono hh fun a q ⟨o, e⟩ => ?_)⟩
    rcases List.mem_append.mp q with q | q
    · rw [(fr a q).1] at e; cases e
    · exact q
/-- fewer slots are owned -/
def lower (O O' : List Nat) (i : Nat) : Bool := lv O' i == 0 && lv O i != 0
theorem SI.low (hO : ∀ i, lv O' i = lv O i ∨ lv O' i = 0) (I : SI K H0 G0 O Γ σ H) : SI K H0 G0 O' Γ σ H := by
  obtain ⟨Ls, S, I⟩ := I
  let bad : Addr → Bool := fun a => (List.range Γ.length).any fun i => lower O O' i && decide (a ∈ Ls i)
  have hbad : ∀ {a}, bad a = true ↔ ∃ i, i < Γ.length ∧ lower O O' i = true ∧ a ∈ Ls i := fun {a} => by
    show (List.range Γ.length).any _ = true ↔ _
    rw [List.any_eq_true]
    constructor
    · rintro ⟨i, hi, h⟩
      rw [Bool.and_eq_true] at h
      exact ⟨i, List.mem_range.mp hi, h.1, of_decide_eq_true h.2⟩
    · rintro ⟨i, hi, h1, h2⟩
      exact ⟨i, List.mem_range.mpr hi, by rw [h1, decide_eq_true h2]; rfl⟩
  have sv : Same (Vw H0 G0 S H) (Vw H0 G0 (S.filter fun a => !bad a) H) := Vw.mono (Same.refl _) fun a q _ => (List.mem_filter.mp q).1
  refine ⟨fun i => if lower O O' i = true ∨ Γ.length ≤ i then [] else Ls i, S.filter fun a => !bad a, I.h0, I.g0, fun a ha => I.own a (List.mem_filter.mp ha).1, fun i a ha => ?_, fun i => ?_, fun i j hij a ha => ?_, fun i d e => ?_, I.len⟩
  · skip
    split at ha
    · cases ha
    · rename_i h
      have h1 : ¬ lower O O' i = true := fun q => h (.inl q)
      have h2 : i < Γ.length := by
        rcases Nat.lt_or_ge i Γ.length with q | q
        · exact q
        · exact (h (.inr q)).elim
      refine List.mem_filter.mpr ⟨I.sub i a ha, ?_⟩
      cases hb : bad a with
      | false => rfl
      | true =>
        obtain ⟨j, _, hj, hja⟩ := hbad.mp hb
        have hji : j ≠ i := fun z => h1 (z ▸ hj)
        exact (I.dj j i hji a hja ha).elim
  · skip
    split
    · exact List.nodup_nil
    · exact I.nd i
  · skip
    split at ha
    · cases ha
    · split
      · exact fun q => nomatch q
      · exact I.dj i j hij a ha
  · obtain ⟨v, h1, h2⟩ := I.rep i d e
    have hi : i < Γ.length := (List.getElem?_eq_some_iff.mp e).1
    refine ⟨v, h1, ?_⟩
    by_cases hl : lower O O' i = true
    · have hl' := hl
      unfold lower at hl'
      rw [Bool.and_eq_true] at hl'
      have h0 : lv O' i = 0 := by simpa using hl'.1
      rw [h0, if_pos (.inl hl), Ow.zero]
      refine ⟨rfl, h2.rp sv fun a ha o q => Vw.of (fun z => ?_) (.inr (I.own a (I.sub i a ha)).1) q⟩
      have hb := (List.mem_filter.mp z).2
      have : bad a = true := hbad.mpr ⟨i, hi, hl, ha⟩
      rw [this] at hb; cases hb
    · rw [if_neg (fun q => q.elim hl fun z => absurd hi (by omega))]
      have he : lv O' i = lv O i := by
        rcases hO i with q | q
        · exact q
        · rw [q]
          unfold lower at hl
          rw [q] at hl
          simp at hl
          exact hl.symm
      rw [he]
      exact h2.mono (Same.refl _) sv
end

/-! ### expressions where a statement stands -/
section
variable {K : PySem.W.Frag} {cm : Nat → Value} {W : WX} {H0 G0 H : Hp} {O : List Nat} {Ls : Nat → List Addr} {S : List Addr} {Γ : Ev} {σ : L2.St} {k n : Nat} {m : Mr} {Q : VK}
/-- the whole is read; what is given is the call's own, or a scalar -/
theorem tD_T (I : SIw K H0 G0 O Ls S Γ σ H) (hx : ∀ c, m Γ = .exc c → ∀ H', Same H0 H' → W (cm c) none σ H') (hb : m Γ ≠ .bad)
    (q : ∀ d v H' G' L, m Γ = .ok d → Same H H' → Stp H (Vw H0 G0 [] H) H' G' → L.Nodup → (∀ a ∈ L, H a = none ∧ G' a = none) → Ow K H' G' k d v L → Q v H') : tD K cm (WE W) k m σ H Q := by
  refine ⟨Vw H0 G0 [] H, Γ, Vw.same, I.all, ?_⟩
  cases e : m Γ with
  | bad => exact (hb e).elim
  | exc c => exact fun H' s => hx c e H' (I.h0.trans s)
  | ok d => exact fun v H' G' L st nd fr ow => q d v H' G' L e st.h st nd fr ow
/-- what is not owned is read -/
theorem tD_P (I : SIw K H0 G0 O Ls S Γ σ H) (hx : ∀ c, m (mask O Γ) = .exc c → ∀ H', Same H0 H' → W (cm c) none σ H') (hb : m (mask O Γ) ≠ .bad)
    (q : ∀ d v H' G' L, m (mask O Γ) = .ok d → Same H H' → Stp H (Vw H0 G0 S H) H' G' → L.Nodup → (∀ a ∈ L, H a = none ∧ G' a = none) → Ow K H' G' k d v L → Q v H') : tD K cm (WE W) k m σ H Q := by
  refine ⟨Vw H0 G0 S H, mask O Γ, Vw.same, I.some_, ?_⟩
  cases e : m (mask O Γ) with
  | bad => exact (hb e).elim
  | exc c => exact fun H' s => hx c e H' (I.h0.trans s)
  | ok d => exact fun v H' G' L st nd fr ow => q d v H' G' L e st.h st nd fr ow
theorem tDT_T {m : Ev → Res Bool} {Q : Bool → Hp → Prop} (I : SIw K H0 G0 O Ls S Γ σ H) (hx : ∀ c, m Γ = .exc c → ∀ H', Same H0 H' → W (cm c) none σ H') (hb : m Γ ≠ .bad)
    (q : ∀ b H', m Γ = .ok b → Same H H' → Q b H') : tDT K cm (WE W) m σ H Q := by
  refine ⟨Vw H0 G0 [] H, Γ, Vw.same, I.all, ?_⟩
  cases e : m Γ with
  | bad => exact (hb e).elim
  | exc c => exact fun H' s => hx c e H' (I.h0.trans s)
  | ok d => exact fun H' G' st => q d H' e st.h
/-- a view behind a step from what is not owned -/
theorem view_P {H' G' : Hp} {L : List Addr} (I : SIw K H0 G0 O Ls S Γ σ H) (st : Stp H (Vw H0 G0 S H) H' G') (fr : ∀ a ∈ L, H a = none ∧ G' a = none) : Same G' (Vw H0 G0 (L ++ S) H') := fun a o e => by
  have key : a ∉ S ∧ ((∃ u, G0 a = some u) ∨ H0 a = none) := by
    rcases st.new a o e with ⟨u, q⟩ | q
    · exact ⟨(Vw.inv q).1, (Vw.inv q).2.1⟩
    · refine ⟨fun z => ?_, .inr (none_back I.h0 q)⟩
      obtain ⟨u, w⟩ := (I.own a z).2.2
      rw [q] at w; cases w
  refine Vw.of (fun z => ?_) key.2 (st.s _ _ e)
  rcases List.mem_append.mp z with z | z
  · rw [(fr a z).2] at e; cases e
  · exact key.1 z
end
end DL

set_option Elab.async false
set_option linter.all false
set_option maxRecDepth 100000
set_option maxHeartbeats 1000000
namespace DL
open PySem PySem.Spec PyProof.Rows L2

def toOut (r : Res Dt) (f : Dt → Out) : Out := match r with
  | .ok d => f d
  | .exc c => .exc c
  | .bad => .bad
@[simp] theorem toOut_ok (d : Dt) (f : Dt → Out) : toOut (.ok d) f = f d := rfl
@[simp] theorem toOut_exc (c : Nat) (f : Dt → Out) : toOut (.exc c) f = .exc c := rfl
@[simp] theorem toOut_bad (f : Dt → Out) : toOut .bad f = .bad := rfl
def mNext : Ms := fun Γ => .nx Γ
def thenO (o : Out) (f : Ev → Out) : Out := match o with
  | .nx Γ => f Γ
  | .ret d => .ret d
  | .exc c => .exc c
  | .bad => .bad
@[simp] theorem thenO_nx (Γ : Ev) (f : Ev → Out) : thenO (.nx Γ) f = f Γ := rfl
@[simp] theorem thenO_ret (d : Dt) (f : Ev → Out) : thenO (.ret d) f = .ret d := rfl
@[simp] theorem thenO_exc (c : Nat) (f : Ev → Out) : thenO (.exc c) f = .exc c := rfl
@[simp] theorem thenO_bad (f : Ev → Out) : thenO .bad f = .bad := rfl
def mSeq (a b : Ms) : Ms := fun Γ => thenO (a Γ) b
def mIf (c : Ev → Res Bool) (a b : Ms) : Ms := fun Γ => match c Γ with
  | .ok true => a Γ
  | .ok false => b Γ
  | .exc e => .exc e
  | .bad => .bad
def lwB (O O' : List Nat) : Bool := (List.range (max O.length O'.length)).all fun i => lv O' i == lv O i || lv O' i == 0
theorem lwB_ok {O O' : List Nat} (h : lwB O O' = true) (i : Nat) : lv O' i = lv O i ∨ lv O' i = 0 := by
  unfold lwB at h
  rw [List.all_eq_true] at h
  rcases Nat.lt_or_ge i (max O.length O'.length) with q | q
  · have := h i (List.mem_range.mpr q)
    simpa using this
  · right
    unfold lv
    rw [List.getD_eq_getElem?_getD, List.getElem?_eq_none (by omega)]
    rfl
theorem lv_set {O : List Nat} {i n : Nat} (h : i < O.length) : lv (O.set i n) i = n := by
  unfold lv
  rw [List.getD_eq_getElem?_getD, List.getElem?_set_self h]
  rfl
theorem lv_set_ne {O : List Nat} {i j n : Nat} (h : j ≠ i) : lv (O.set i n) j = lv O j := by
  unfold lv
  rw [List.getD_eq_getElem?_getD, List.getD_eq_getElem?_getD, List.getElem?_set_ne (fun z => h z.symm)]

section
variable {X : Cx} {cm : Nat → Value} {W : WX} {nr : Nat} {O O1 O2 O' : List Nat} {st : Stmt} {rest body a b : List Stmt} {m m1 m2 ma mb : Ms} {e : Expr} {me : Mr} {i k n : Nat} {pos : Pos}
/-! ### blocks, tests -/
theorem SPost.low {K : PySem.W.Frag} {H0 G0 : Hp} {o : Out} {D : Ends} (h : ∀ i, lv O' i = lv O i ∨ lv O' i = 0) (po : SPost K cm W nr H0 G0 O' o D) : SPost K cm W nr H0 G0 O o D := by
  cases o with
  | nx Γ => exact fun σ' H' I => po σ' H' (I.low h)
  | ret d => exact po
  | exc c => exact po
  | bad => exact po
theorem dss_nil : DSs X cm W nr O O [] mNext := PSs.of pss_nil fun D σ H ⟨H0, G0, Γ, I, po⟩ => po σ H I
theorem dss_cons (h1 : DS X cm W nr O O1 st m1) (h2 : DSs X cm W nr O1 O' rest m2) : DSs X cm W nr O O' (st :: rest) (mSeq m1 m2) := by
  refine PSs.of (pss_cons h1 h2) fun D σ H ⟨H0, G0, Γ, I, po⟩ => ⟨H0, G0, Γ, I, ?_⟩
  unfold mSeq at po
  cases hx : m1 Γ with
  | nx Γ' => rw [hx] at po; exact fun σ' H' I' => ⟨H0, G0, Γ', I', po⟩
  | ret d => rw [hx] at po; exact po
  | exc c => rw [hx] at po; exact po
  | bad => rw [hx] at po; exact po
theorem dss_one (h1 : DS X cm W nr O O' st m1) : DSs X cm W nr O O' [st] m1 := pss_one h1
/-- names owned up to here are shared from here on -/
theorem dss_low (O1 : List Nat) (h : DSs X cm W nr O1 O' rest m) (hw : lwB O O1 = true := by rfl) : DSs X cm W nr O O' rest m :=
  PSs.of h fun D σ H ⟨H0, G0, Γ, I, po⟩ => ⟨H0, G0, Γ, I.low (lwB_ok hw), po⟩
theorem dss_post (O1 : List Nat) (h : DSs X cm W nr O O1 rest m) (hw : lwB O1 O' = true := by rfl) : DSs X cm W nr O O' rest m :=
  PSs.of h fun D σ H ⟨H0, G0, Γ, I, po⟩ => ⟨H0, G0, Γ, I, po.low (lwB_ok hw)⟩
theorem ds_low (O1 : List Nat) (h : DS X cm W nr O1 O' st m) (hw : lwB O O1 = true := by rfl) : DS X cm W nr O O' st m :=
  PS.of h fun D σ H ⟨H0, G0, Γ, I, po⟩ => ⟨H0, G0, Γ, I.low (lwB_ok hw), po⟩
theorem ds_if {c : Expr} {mc : Ev → Res Bool} (hc : DT X cm (WE W) c mc) (ha : DSs X cm W nr O O' a ma) (hb : DSs X cm W nr O O' b mb) : DS X cm W nr O O' (.If c a b pos) (mIf mc ma mb) := by
  refine PS.of (ps_if hc ha hb) fun D σ H ⟨H0, G0, Γ, ⟨Ls, S, I⟩, po⟩ => ?_
  unfold mIf at po
  refine tDT_T I (fun c e H' s => ?_) (fun e => ?_) fun b H' e s => ?_
  · rw [e] at po; exact po σ H' s
  · rw [e] at po; exact po
  · rw [e] at po
    cases b with
    | true => exact ⟨H0, G0, Γ, ⟨Ls, S, I.grow s⟩, po⟩
    | false => exact ⟨H0, G0, Γ, ⟨Ls, S, I.grow s⟩, po⟩

/-! ### stores -/
def sT (i k : Nat) (m : Mr) : Ms := fun Γ => toOut (m Γ) fun d => if deep k d = true then .nx (Γ.set i (some d)) else .bad
def sP (O : List Nat) (i : Nat) (m : Mr) : Ms := fun Γ => toOut (m (mask O Γ)) fun d => .nx (Γ.set i (some d))
/-- owned at the depth k and nothing deeper: in any view, and at L alone -/
theorem own_share {K : PySem.W.Frag} {H0 G0 H H' G' : Hp} {Ls : Nat → List Addr} {S L : List Addr} {Γ : Ev} {σ : L2.St} {d : Dt} {v : V} (I : SIw K H0 G0 O Ls S Γ σ H) (hh : Same H H') (hd : deep k d = true) (fr : ∀ a ∈ L, H a = none) (ow : Ow K H' G' k d v L) :
    Ow K H' (Vw H0 G0 ([] ++ S) H') 0 d v [] := by
  rw [Ow.zero]
  refine ⟨rfl, (ow.deep (G' := Vw H0 G0 ([] ++ S) H') hd (Nat.le_refl _)).rp (Same.refl _) fun a ha o e => Vw.of (fun z => ?_) (.inr (none_back I.h0 (fr a ha))) e⟩
  obtain ⟨u, w⟩ := (I.own a z).2.2
  rw [fr a ha] at w; cases w
theorem ds_setT (h : PS X st (tAsg (tD X.K cm (WE W) k me) (gName i))) (hi : i < O.length) (hn : n = 0 ∨ k ≤ n) (hO : O' = O.set i n := by rfl) : DS X cm W nr O O' st (sT i k me) := by
  subst hO
  refine PS.of h fun D σ H ⟨H0, G0, Γ, ⟨Ls, S, I⟩, po⟩ => ?_
  unfold sT at po
  refine tD_T I (fun c e H' s => ?_) (fun e => ?_) fun d v H' G' L e hh st nd fr ow => ?_
  · rw [e] at po; exact po σ H' s
  · rw [e] at po; exact po
  · rw [e, toOut_ok] at po
    cases hd : deep k d with
    | false => rw [hd] at po; exact (show False from po).elim
    | true =>
      rw [hd, if_pos rfl] at po
      refine po _ _ ?_
      rcases hn with rfl | hn
      · exact I.store hh List.nodup_nil (fun a ha => by cases ha) (own_share I hh hd (fun a ha => (fr a ha).1) ow) (lv_set hi) fun j hj => lv_set_ne hj
      · exact I.store hh nd (fun a ha => ⟨(fr a ha).1, ow.there a ha⟩) (ow.deep hd hn) (lv_set hi) fun j hj => lv_set_ne hj
theorem ds_setP (h : PS X st (tAsg (tD X.K cm (WE W) n me) (gName i))) (hi : i < O.length) (hO : O' = O.set i n := by rfl) : DS X cm W nr O O' st (sP O i me) := by
  subst hO
  refine PS.of h fun D σ H ⟨H0, G0, Γ, ⟨Ls, S, I⟩, po⟩ => ?_
  unfold sP at po
  refine tD_P I (fun c e H' s => ?_) (fun e => ?_) fun d v H' G' L e hh st nd fr ow => ?_
  · rw [e] at po; exact po σ H' s
  · rw [e] at po; exact po
  · rw [e, toOut_ok] at po
    exact po _ _ (I.store hh nd (fun a ha => ⟨(fr a ha).1, ow.there a ha⟩) (ow.mono (Same.refl _) (view_P I st fr)) (lv_set hi) fun j hj => lv_set_ne hj)
/-- the stores' readings: a name, a name given a comprehension -/
theorem asg_name {x : Str} {pos' : Pos} (he : DE X cm (WE W) k e me) (hN : X.N.Nodup) (hi : X.N[i]? = some x) (hx : Loc X.env.scope x) (hs : swapsWith e (some (.Name x pos')) pos.line X.env = pure false := by rfl) (hf : X.fn x = true ∨ X.env.scope.names.lookup x = some .local := by first | exact .inl rfl | exact .inr rfl) :
    PS X (.Assign [.Name x pos'] e pos) (tAsg (tD X.K cm (WE W) k me) (gName i)) := ps_set hN hi hx he hs hf
theorem asg_lc {y : Str} {py spos : Pos} {elt tg iter : Expr} {ifs : List Expr} {scope : Scope} {own : List (Str × Nat)} {g : TG} {slots : List Nat} {mi : Mi} {mt : Ev → Res Bool} {me : Mr} (hc : X.calm = true) (hN : X.N.Nodup) (hy : X.N[i]? = some y) (hyl : X.env.scope.names.lookup y = some .local)
    (hsw : swapsWith (.ListComp elt [⟨tg, iter, ifs, 0⟩] scope pos) (some (.Name y py)) spos.line X.env = pure true) (hi : DI X cm (WE W) tg iter g slots mi) (ok : BlkOk X.N X.env.scope scope own) (hsl : own.map (·.2) = slots)
    (hg : ∀ (s : Shared) (H : Hp) (C : Addr) (cl : List (Str × Addr)) (fp : List Addr), PG (X.blk s H scope (compEnvC scope cl C X.env) fp) tg g)
    (ht : ∀ (s : Shared) (H : Hp) (C : Addr) (cl : List (Str × Addr)) (fp : List Addr), DTs (X.blk s H scope (compEnvC scope cl C X.env) fp) cm Ef ifs mt)
    (he : ∀ (s : Shared) (H : Hp) (C : Addr) (cl : List (Str × Addr)) (fp : List Addr), DE (X.blk s H scope (compEnvC scope cl C X.env) fp) cm Ef n elt me) (hs : ∀ x, foldedSetIterable iter X.env x = pure x := by intro _; rfl) :
    PS X (.Assign [.Name y py] (.ListComp elt [⟨tg, iter, ifs, 0⟩] scope pos) spos) (tAsg (tD X.K cm (WE W) (n + 1) (mLc mi slots mt me)) (gName i)) :=
  PS.of (ps_setLc (own := own) (tt := tDT X.K cm Ef mt) (te := tD X.K cm Ef n me) hc hN hy hyl hsw hi ok hg ht he hs) fun D σ H ⟨G, Γ, s, ev, po⟩ => tlc_ok hsl s ev po

/-! ### return, calls for their effect, raise -/
def sRet (m : Mr) : Ms := fun Γ => toOut (m Γ) fun d => .ret d
theorem ds_ret (he : DE X cm (WE W) nr e me) : DS X cm W nr O O' (.Return (some e) pos) (sRet me) := by
  refine PS.of (ps_ret he) fun D σ H ⟨H0, G0, Γ, ⟨Ls, S, I⟩, po⟩ => ?_
  unfold sRet at po
  refine tD_T I (fun c e H' s => ?_) (fun e => ?_) fun d v H' G' L e hh st nd fr ow => ?_
  · rw [e] at po; exact po σ H' s
  · rw [e] at po; exact po
  · rw [e, toOut_ok] at po
    refine po v H' ⟨G', L, ⟨I.h0.trans hh, fun a o q => st.g _ _ (Vw.of (by simp) (.inl ⟨o, q⟩) (I.g0 _ _ q)), st.s, fun a o q => ?_⟩, nd, fun a ha => ⟨none_back I.h0 (fr a ha).1, (fr a ha).2⟩, ow⟩
    rcases st.new a o q with ⟨u, w⟩ | w
    · exact (Vw.inv w).2.1
    · exact .inr (none_back I.h0 w)
/-- return x, x owned -/
def sMove (i : Nat) : Ms := fun Γ => match Γ[i]? with
  | some (some d) => .ret d
  | _ => .bad
theorem ds_move (he : PE X e (tVar i)) (hO : lv O i = nr := by rfl) : DS X cm W nr O O' (.Return (some e) pos) (sMove i) := by
  refine PS.of (ps_ret he) fun D σ H ⟨H0, G0, Γ, ⟨Ls, S, I⟩, po⟩ => ?_
  unfold sMove at po
  cases hx : Γ[i]? with
  | none => rw [hx] at po; exact (show False from po).elim
  | some od =>
    cases od with
    | none => rw [hx] at po; exact (show False from po).elim
    | some d =>
      rw [hx] at po
      obtain ⟨v, h1, h2⟩ := I.rep i d hx
      refine ⟨v, h1, po v H ⟨Vw H0 G0 S H, Ls i, ⟨I.h0, I.g0v, Vw.same, fun a o q => (Vw.inv q).2.1⟩, I.nd i, fun a ha => ⟨(I.own a (I.sub i a ha)).1, ?_⟩, by rw [← hO]; exact h2⟩⟩
      cases q : Vw H0 G0 S H a with
      | none => rfl
      | some o => exact absurd (I.sub i a ha) (Vw.inv q).1
def sExpr (m : Mr) : Ms := fun Γ => toOut (m Γ) fun _ => .nx Γ
theorem ds_expr (he : DE X cm (WE W) k e me) (hs : swapsWith e none pos.line X.env = pure false := by rfl) : DS X cm W nr O O (.Expr e pos) (sExpr me) := by
  refine PS.of (ps_expr he hs) fun D σ H ⟨H0, G0, Γ, ⟨Ls, S, I⟩, po⟩ => ?_
  unfold sExpr at po
  refine tD_T I (fun c e H' s => ?_) (fun e => ?_) fun d v H' G' L e hh st nd fr ow => ?_
  · rw [e] at po; exact po σ H' s
  · rw [e] at po; exact po
  · rw [e, toOut_ok] at po
    exact po _ _ ⟨Ls, S, I.grow hh⟩
def sRaise (c : Nat) : Ms := fun _ => .exc c
theorem ds_raise {C : Addr} {c : Nat} (hc : X.calm = true) (tk : Takes X W) (he : PMk X e fun _ H Q => Q (.ref C) none H) (hC : cm c = .ref C) : DS X cm W nr O O' (.Raise (some e) none pos) (sRaise c) := by
  refine PS.of (ps_raise hc tk he) fun D σ H ⟨H0, G0, Γ, ⟨Ls, S, I⟩, po⟩ => ?_
  have po' : ∀ σ' H', Same H0 H' → W (cm c) none σ' H' := po
  rw [hC] at po'
  exact po' σ H I.h0

/-! ### for -/
def loopL (slots : List Nat) (mb : Ms) : Ev → List (List Dt) → Out
  | Γ, [] => .nx Γ
  | Γ, r :: rs => thenO (mb (bindAll Γ slots r)) fun Γ' => loopL slots mb Γ' rs
def sFor (O : List Nat) (mi : Mi) (slots : List Nat) (mb : Ms) : Ms := fun Γ => match mi (mask O Γ) with
  | .ok rows => loopL slots mb Γ rows
  | .exc c => .exc c
  | .bad => .bad
/-- the entry's view is widened by what a loop walks -/
theorem SIw.wider {K : PySem.W.Frag} {H0 G0 G1 H H1 : Hp} {Ls : Nat → List Addr} {S : List Addr} {Γ : Ev} {σ : L2.St} (I : SIw K H0 G0 O Ls S Γ σ H) (st : Stp H (Vw H0 G0 S H) H1 G1) : SIw K H0 G1 O Ls S Γ σ H1 := by
  refine ⟨I.h0.trans st.h, st.s, fun a ha => ⟨(I.own a ha).1, ?_, ?_⟩, I.sub, I.nd, I.dj, fun i d e => ?_, I.len⟩
  · obtain ⟨o, e⟩ := (I.own a ha).2.2
    refine apart1 st e ?_
    cases q : Vw H0 G0 S H a with
    | none => rfl
    | some u => exact absurd ha (Vw.inv q).1
  · obtain ⟨o, e⟩ := (I.own a ha).2.2
    exact ⟨o, st.h _ _ e⟩
  · obtain ⟨v, h1, h2⟩ := I.rep i d e
    refine ⟨v, h1, h2.mono st.h fun a o q => ?_⟩
    obtain ⟨q1, q2, q3⟩ := Vw.inv q
    exact Vw.of q1 (.inl ⟨o, st.g _ _ q⟩) (st.h _ _ q3)
theorem SI.narrow {K : PySem.W.Frag} {H0 G0 G1 H : Hp} {Γ : Ev} {σ : L2.St} (I : SI K H0 G1 O Γ σ H) (g : Same G0 G1) (new : ∀ a o, G1 a = some o → (∃ u, G0 a = some u) ∨ H0 a = none) : SI K H0 G0 O Γ σ H := by
  obtain ⟨Ls, S, I⟩ := I
  refine ⟨Ls, S, I.h0, g.trans I.g0, fun a ha => ⟨(I.own a ha).1, none_back g (I.own a ha).2.1, (I.own a ha).2.2⟩, I.sub, I.nd, I.dj, fun i d e => ?_, I.len⟩
  obtain ⟨v, h1, h2⟩ := I.rep i d e
  refine ⟨v, h1, h2.mono (Same.refl _) fun a o q => ?_⟩
  obtain ⟨q1, q2, q3⟩ := Vw.inv q
  refine Vw.of q1 ?_ q3
  rcases q2 with ⟨u, w⟩ | w
  · exact new a u w
  · exact .inr w
theorem RetOk.narrow {K : PySem.W.Frag} {H0 G0 G1 H : Hp} {d : Dt} {v : V} (r : RetOk K nr H0 G1 d v H) (g : Same G0 G1) (new : ∀ a o, G1 a = some o → (∃ u, G0 a = some u) ∨ H0 a = none) : RetOk K nr H0 G0 d v H := by
  obtain ⟨G', L, st, nd, fr, ow⟩ := r
  refine ⟨G', L, ⟨st.h, g.trans st.g, st.s, fun a o q => ?_⟩, nd, fr, ow⟩
  rcases st.new a o q with ⟨u, w⟩ | w
  · exact new a u w
  · exact .inr w
/-- slots that are not owned are bound -/
theorem SI.bind {K : PySem.W.Frag} {H0 G0 H H' : Hp} {is : List Nat} {ds : List Dt} {vs : List V} {Γ : Ev} {σ : L2.St} (hO : ∀ j ∈ is, lv O j = 0) (r : Rps K G0 ds vs) (h : Same H H') (I : SI K H0 G0 O Γ σ H) : SI K H0 G0 O (bindAll Γ is ds) (setAll σ is vs) H' := by
  have I' : SI K H0 G0 O Γ σ H' := let ⟨Ls, S, I⟩ := I; ⟨Ls, S, I.grow h⟩
  clear I h
  induction is generalizing ds vs Γ σ with
  | nil => exact I'
  | cons i is ih =>
    cases ds with
    | nil =>
      obtain rfl : vs = [] := r
      exact I'
    | cons d ds =>
      obtain ⟨v, t, rfl, g, q⟩ := r
      show SI K H0 G0 O (bindAll (Γ.set i (some d)) is ds) (setAll (σ.set i (some v)) is t) H'
      refine ih (fun j hj => hO j (List.mem_cons_of_mem _ hj)) q ?_
      obtain ⟨Ls, S, I⟩ := I'
      exact I.store (n := 0) (L := []) (Same.refl _) List.nodup_nil (fun a ha => by cases ha) (by rw [Ow.zero]; exact ⟨rfl, g.mono ((I.g0v).trans (Vw.mono (Same.refl _) fun a q _ => q))⟩) (hO i List.mem_cons_self) fun j _ => rfl
theorem ds_for {tg iter : Expr} {g : TG} {slots : List Nat} {mi : Mi} (hp : PassesOwn (model X.prog X.w) X.A X.env X.xe) (hc : X.calm = true) (hi : DI X cm (WE W) tg iter g slots mi) (hg : PG X tg g) (hb : DSs X cm W nr O O body mb) (hsl : slots.all (fun i => lv O i == 0) = true := by rfl)
    (hs : ∀ x, foldedSetIterable iter X.env x = pure x := by intro _; rfl) : DS X cm W nr O O (.For tg iter body [] pos) (sFor O mi slots mb) := by
  have hsl' : ∀ j ∈ slots, lv O j = 0 := fun j hj => by simpa using List.all_eq_true.mp hsl j hj
  refine PS.of (ps_for hp hc hi hg hb hs) fun D σ H ⟨H0, G0, Γ, ⟨Ls, S, I⟩, po⟩ => ?_
  unfold sFor at po
  refine ⟨Vw H0 G0 S H, mask O Γ, Vw.same, I.some_, ?_⟩
  cases hx : mi (mask O Γ) with
  | bad => rw [hx] at po; exact (show False from po).elim
  | exc c => rw [hx] at po; exact fun H' s => po σ H' (I.h0.trans s)
  | ok rows =>
    rw [hx] at po
    intro J H1 G1 st1 Sr
    have g01 : Same G0 G1 := I.g0v.trans st1.g
    have new1 : ∀ a o, G1 a = some o → (∃ u, G0 a = some u) ∨ H0 a = none := fun a o q => by
      rcases st1.new a o q with ⟨u, w⟩ | w
      · exact (Vw.inv w).2.1
      · exact .inr (none_back I.h0 w)
    have I1 : SI X.K H0 G1 O Γ σ H1 := ⟨Ls, S, I.wider st1⟩
    refine ⟨fun i m σ' H' => i + m = rows.length ∧ ∃ Γ', SI X.K H0 G1 O Γ' σ' H' ∧ SPost X.K cm W nr H0 G0 O (loopL slots mb Γ' (rows.drop i)) D, ⟨rows.length, by omega, Γ, I1, po⟩, ?_⟩
    rintro i m σ2 H2 ⟨him, Γ2, I2, po2⟩
    have sg : Same G1 H2 := let ⟨_, _, I⟩ := I2; I.g0
    by_cases hlt : i < rows.length
    · right
      refine ⟨Sr.go i H2 sg hlt, fun σ' H' => ∃ Γ', SI X.K H0 G1 O Γ' σ' H' ∧ SPost X.K cm W nr H0 G0 O (loopL slots mb Γ' (rows.drop (i + 1))) D, fun σ' H' h' => ⟨m - 1, by omega, by omega, h'⟩, fun x H3 y => ?_⟩
      refine Sr.bind i H2 x H3 σ2 _ rows[i] sg (List.getElem?_eq_getElem hlt) y fun vs H4 s4 r4 => ?_
      have I4 := SI.bind hsl' r4 s4 I2
      rw [List.drop_eq_getElem_cons hlt] at po2
      unfold loopL at po2
      refine ⟨H0, G1, _, I4, ?_⟩
      cases hb2 : mb (bindAll Γ2 slots rows[i]) with
      | nx Γ5 => rw [hb2] at po2; exact fun σ5 H5 I5 => ⟨Γ5, I5, po2⟩
      | ret d => rw [hb2] at po2; exact fun v H' r => po2 v H' (r.narrow g01 new1)
      | exc c => rw [hb2] at po2; exact po2
      | bad => rw [hb2] at po2; exact po2
    · left
      have e : i = rows.length := by omega
      subst e
      rw [List.drop_length] at po2
      exact ⟨Sr.stop H2 sg, po2 σ2 H2 (I2.narrow g01 new1)⟩

/-! ### a def by its body -/
/-- the names' data at the entry -/
def startE (n : Nat) (ds : List Dt) : Ev := ds.map some ++ List.replicate (n - ds.length) none
def runF (n : Nat) (mb : Ms) : List Dt → Res Dt := fun ds => match mb (startE n ds) with
  | .nx _ => .ok .non
  | .ret d => .ok d
  | .exc c => .exc c
  | .bad => .bad
theorem rps_start {K : PySem.W.Frag} {G : Hp} {ds : List Dt} {vs : List V} (r : Rps K G ds vs) {N : List Str} {i : Nat} {d : Dt} (h : (startE N.length ds)[i]? = some (some d)) : ∃ v, (start N vs)[i]? = some (some v) ∧ Rp K G d v := by
  unfold startE at h
  by_cases hi : i < ds.length
  · rw [List.getElem?_append_left (by rw [List.length_map]; exact hi), List.getElem?_map] at h
    obtain ⟨d', h1, h2⟩ := Option.map_eq_some_iff.mp h
    cases h2
    obtain ⟨v, h3, h4⟩ := r.get h1
    refine ⟨v, ?_, h4⟩
    unfold L2.start
    rw [List.getElem?_append_left (by rw [List.length_map, r.length]; exact hi), List.getElem?_map, h3]
    rfl
  · rw [List.getElem?_append_right (by rw [List.length_map]; omega), List.getElem?_replicate] at h
    split at h <;> cases h
theorem body_ok {K : PySem.W.Frag} {N : List Str} {vs : List V} {H : Hp} {Q : VK} {E : XK} {k : Nat} {O O' : List Nat} {mb : Ms} (hO : lwB [] O = true) (h : spD K cm k nr (runF N.length mb) vs H Q E) : tS K cm (fun cls d _ H => E cls d H) nr O O' mb { nx := fun _ H' => Q .non H', rt := Q } (start N vs) H := by
  obtain ⟨ds, G, hl, s, r, po⟩ := h
  have I : SIw K H G [] (fun _ => []) [] (startE N.length ds) (start N vs) H := by
    refine ⟨Same.refl _, s, (fun a ha => by cases ha), (fun i a ha => by cases ha), (fun i => List.nodup_nil), (fun i j _ a ha => by cases ha), (fun i d e => ?_), ?_⟩
    · obtain ⟨v, h1, h2⟩ := rps_start r e
      refine ⟨v, h1, ?_⟩
      rw [show lv [] i = 0 from rfl, Ow.zero]
      exact ⟨rfl, h2.mono fun a o e => Vw.of (by simp) (.inl ⟨o, e⟩) (s _ _ e)⟩
    · unfold startE L2.start
      rw [List.length_append, List.length_append, List.length_map, List.length_map, List.length_replicate, List.length_replicate, r.length]
  refine ⟨H, G, startE N.length ds, SI.low (lwB_ok hO) ⟨_, _, I⟩, ?_⟩
  unfold runF at po
  cases hx : mb (startE N.length ds) with
  | nx Γ => rw [hx] at po; exact fun σ' H' ⟨Ls, S, J⟩ => po .non H' (Vw H G S H') [] ⟨J.h0, J.g0v, Vw.same, fun a o q => (Vw.inv q).2.1⟩ List.nodup_nil (fun a ha => by cases ha) (by cases nr <;> exact ⟨rfl, rfl⟩)
  | ret d => rw [hx] at po; exact fun v H' ⟨G', L, st, nd, fr, ow⟩ => po v H' G' L st nd fr ow
  | exc c => rw [hx] at po; exact fun σ' H' s => po H' s
  | bad => rw [hx] at po; exact po
end
end DL

set_option Elab.async false
set_option linter.all false
set_option maxRecDepth 100000
set_option maxHeartbeats 1000000
namespace DL
open PySem PySem.Spec PyProof.Rows L2

/-! ### lists that are changed -/
/-- what an operation makes of a list's items: data and values go along, owned parts too (L: the new item's) -/
def LOp (ds ds' : List Dt) (vs vs' : List V) (L : List Addr) (P : Dt → V → List Addr → Prop) : Prop :=
  ∀ L0, Ows P ds vs L0 → ∃ L1, Ows P ds' vs' L1 ∧ (∀ a ∈ L1, a ∈ L0 ∨ a ∈ L) ∧ ((L0 ++ L).Nodup → L1.Nodup)
section
variable {P : Dt → V → List Addr → Prop} {ds es : List Dt} {vs ws : List V} {d : Dt} {y : V} {L : List Addr}
theorem lop_append (p : P d y L) : LOp ds (ds ++ [d]) vs (vs ++ [y]) L P := fun L0 o => ⟨L0 ++ L, o.snoc p, fun a ha => List.mem_append.mp ha, fun h => h⟩
theorem Ows.split {i : Nat} : ∀ {ds : List Dt} {vs : List V} {L0 : List Addr}, i < ds.length → Ows P ds vs L0 →
    ∃ A M B u e, L0 = A ++ M ++ B ∧ ds[i]? = some e ∧ vs[i]? = some u ∧ P e u M ∧ Ows P (ds.take i) (vs.take i) A ∧ Ows P (ds.drop (i + 1)) (vs.drop (i + 1)) B := by
  induction i with
  | zero =>
    intro ds vs L0 hi o
    cases ds with
    | nil => simp at hi
    | cons e ds =>
      obtain ⟨v, r, L1, L2, rfl, rfl, p, q⟩ := o
      exact ⟨[], L1, L2, v, e, rfl, rfl, rfl, p, ⟨rfl, rfl⟩, q⟩
  | succ i ih =>
    intro ds vs L0 hi o
    cases ds with
    | nil => simp at hi
    | cons e ds =>
      obtain ⟨v, r, L1, L2, rfl, rfl, p, q⟩ := o
      obtain ⟨A, M, B, u, e', rfl, h1, h2, h3, h4, h5⟩ := ih (by simpa using hi) q
      exact ⟨L1 ++ A, M, B, u, e', by simp, by simpa using h1, by simpa using h2, h3, ⟨v, r.take i, L1, A, rfl, rfl, p, h4⟩, h5⟩
theorem Ows.append : ∀ {ds es : List Dt} {vs ws : List V} {A B : List Addr}, Ows P ds vs A → Ows P es ws B → Ows P (ds ++ es) (vs ++ ws) (A ++ B)
  | [], _, _, _, _, _, o, q => by rw [o.1, o.2]; exact q
  | d :: ds, es, _, ws, _, B, ⟨v, r, L1, L2, e1, e2, p, q⟩, o => by rw [e1, e2]; exact ⟨v, r ++ ws, L1, L2 ++ B, rfl, by simp, p, Ows.append q o⟩
/-- the i-th item exchanged -/
theorem Ows.exch {i : Nat} {A B : List Addr} (hd : i < ds.length) (hv : i < vs.length) (a : Ows P (ds.take i) (vs.take i) A) (b : Ows P (ds.drop (i + 1)) (vs.drop (i + 1)) B) (p : P d y L) : Ows P (ds.set i d) (vs.set i y) (A ++ L ++ B) := by
  rw [List.set_eq_take_append_cons_drop, List.set_eq_take_append_cons_drop, if_pos hd, if_pos hv, List.append_assoc]
  exact a.append ⟨y, vs.drop (i + 1), L, B, rfl, rfl, p, b⟩
theorem nodup_swap {A M B L : List Addr} (h : ((A ++ M ++ B) ++ L).Nodup) : (A ++ L ++ B).Nodup := by
  rw [List.nodup_append] at h
  obtain ⟨h1, h2, h3⟩ := h
  rw [List.nodup_append] at h1
  obtain ⟨h4, h5, h6⟩ := h1
  rw [List.nodup_append] at h4
  rw [List.nodup_append, List.nodup_append]
  refine ⟨⟨h4.1, h2, fun a ha b hb => h3 a (by simp [ha]) b hb⟩, h5, fun a ha b hb => ?_⟩
  rcases List.mem_append.mp ha with ha | ha
  · exact h6 a (List.mem_append_left _ ha) b hb
  · exact fun z => h3 b (by simp [hb]) a ha z.symm
theorem lop_set {i : Nat} (hi : i < ds.length) (p : P d y L) : LOp ds (ds.set i d) vs (vs.set i y) L P := fun L0 o => by
  obtain ⟨A, M, B, u, e, rfl, _, hv, _, h1, h2⟩ := Ows.split hi o
  refine ⟨A ++ L ++ B, Ows.exch hi (List.getElem?_eq_some_iff.mp hv).1 h1 h2 p, fun a ha => ?_, nodup_swap⟩
  simp only [List.mem_append] at ha ⊢
  rcases ha with (ha | ha) | ha
  · exact .inl (.inl (.inl ha))
  · exact .inr ha
  · exact .inl (.inr ha)
theorem Ows.take (i : Nat) : ∀ {ds : List Dt} {vs : List V} {L0 : List Addr}, Ows P ds vs L0 → ∃ A B, L0 = A ++ B ∧ Ows P (ds.take i) (vs.take i) A ∧ Ows P (ds.drop i) (vs.drop i) B := by
  induction i with
  | zero => intro ds vs L0 o; exact ⟨[], L0, rfl, ⟨rfl, rfl⟩, o⟩
  | succ i ih =>
    intro ds vs L0 o
    cases ds with
    | nil => exact ⟨[], L0, rfl, by rw [o.1]; exact ⟨rfl, rfl⟩, by rw [o.1, o.2]; exact ⟨rfl, rfl⟩⟩
    | cons e ds =>
      obtain ⟨v, r, L1, L2, rfl, rfl, p, q⟩ := o
      obtain ⟨A, B, rfl, h1, h2⟩ := ih q
      exact ⟨L1 ++ A, B, by simp, ⟨v, r.take i, L1, A, rfl, rfl, p, h1⟩, h2⟩
theorem nodup_rot {A B L : List Addr} (h : ((A ++ B) ++ L).Nodup) : (A ++ (L ++ B)).Nodup := by
  rw [← List.append_assoc]
  have := nodup_swap (A := A) (M := []) (B := B) (L := L) (by simpa using h)
  exact this
theorem lop_insert {i : Nat} (p : P d y L) : LOp ds (ds.take i ++ d :: ds.drop i) vs (vs.take i ++ y :: vs.drop i) L P := fun L0 o => by
  obtain ⟨A, B, rfl, h1, h2⟩ := Ows.take i o
  refine ⟨A ++ (L ++ B), h1.append ⟨y, vs.drop i, L, B, rfl, rfl, p, h2⟩, fun a ha => ?_, nodup_rot⟩
  simp only [List.mem_append] at ha ⊢
  rcases ha with ha | ha | ha
  · exact .inl (.inl ha)
  · exact .inr ha
  · exact .inl (.inr ha)
theorem lop_extend (p : Ows P es ws L) : LOp ds (ds ++ es) vs (vs ++ ws) L P := fun L0 o => ⟨L0 ++ L, o.append p, fun a ha => List.mem_append.mp ha, fun h => h⟩
theorem lop_dropLast : LOp ds ds.dropLast vs vs.dropLast [] P := fun L0 o => by
  obtain ⟨A, B, rfl, h1, h2⟩ := Ows.take (ds.length - 1) o
  have hl := Ows.length o
  rw [List.dropLast_eq_take, List.dropLast_eq_take, hl]
  exact ⟨A, h1, fun a ha => .inl (List.mem_append_left _ ha), fun h => (List.nodup_append.mp (List.nodup_append.mp h).1).1⟩
theorem lop_clear : LOp ds [] vs [] [] P := fun L0 o => ⟨[], ⟨rfl, rfl⟩, (fun a ha => by cases ha), fun _ => List.nodup_nil⟩
end

section
variable {K : PySem.W.Frag} {H0 G0 H H' G : Hp} {O O' : List Nat} {Ls : Nat → List Addr} {S : List Addr} {Γ : Ev} {σ : L2.St} {i n : Nat}
/-- new owned objects that no slot holds yet -/
theorem SIw.more {L : List Addr} (I : SIw K H0 G0 O Ls S Γ σ H) (hh : Same H H') (fr : ∀ a ∈ L, H a = none ∧ ∃ o, H' a = some o) : SIw K H0 G0 O Ls (L ++ S) Γ σ H' := by
  refine ⟨I.h0.trans hh, I.g0.trans hh, fun a ha => ?_, fun i a ha => List.mem_append_right _ (I.sub i a ha), I.nd, I.dj, fun i d e => ?_, I.len⟩
  · rcases List.mem_append.mp ha with ha | ha
    · exact ⟨none_back I.h0 (fr a ha).1, none_back I.g0 (fr a ha).1, (fr a ha).2⟩
    · exact ⟨(I.own a ha).1, (I.own a ha).2.1, let ⟨o, e⟩ := (I.own a ha).2.2; ⟨o, hh _ _ e⟩⟩
  · obtain ⟨u, h1, h2⟩ := I.rep i d e
    refine ⟨u, h1, h2.mono hh (Vw.mono hh fun a q ⟨o, e⟩ => ?_)⟩
    rcases List.mem_append.mp q with q | q
    · rw [(fr a q).1] at e; cases e
    · exact q
/-- an owned object of slot i is changed; L: its new items' own, of no slot yet -/
theorem SIw.write {a : Addr} {o : HO} {d' : Dt} {v : V} {L1 L : List Addr} (I : SIw K H0 G0 O Ls S Γ σ H) (ha : a ∈ Ls i) (hσ : σ[i]? = some (some v)) (ow : Ow K (upd H a o) (Vw H0 G0 S H) (lv O i) d' v L1) (hnd : L1.Nodup)
    (hs : ∀ b ∈ L1, b ∈ Ls i ∨ b ∈ L) (hL : ∀ b ∈ L, b ∈ S ∧ ∀ j, b ∉ Ls j) : SI K H0 G0 O (Γ.set i (some d')) σ (upd H a o) := by
  have haS := I.sub i a ha
  have keep : ∀ {b u}, b ≠ a → H b = some u → upd H a o b = some u := fun h e => by rw [upd_ne h]; exact e
  have h0 : Same H0 (upd H a o) := fun b u e => keep (fun z => by rw [z, (I.own a haS).1] at e; cases e) (I.h0 _ _ e)
  have g0 : Same G0 (upd H a o) := fun b u e => keep (fun z => by rw [z, (I.own a haS).2.1] at e; cases e) (I.g0 _ _ e)
  have sv : Same (Vw H0 G0 S H) (Vw H0 G0 S (upd H a o)) := fun b u e => by
    obtain ⟨h1, h2, h3⟩ := Vw.inv e
    exact Vw.of h1 h2 (keep (fun z => h1 (z ▸ haS)) h3)
  have hn : ∀ b ∈ L1, ∀ j, j ≠ i → b ∉ Ls j := fun b hb j hj => by
    rcases hs b hb with q | q
    · exact I.dj i j (fun z => hj z.symm) b q
    · exact (hL b q).2 j
  have hi : i < σ.length := (List.getElem?_eq_some_iff.mp hσ).1
  refine ⟨fun j => if j = i then L1 else Ls j, S, h0, g0, fun b hb => ⟨(I.own b hb).1, (I.own b hb).2.1, ?_⟩, fun j b hb => ?_, fun j => ?_, fun j k hjk b hb => ?_, fun j d e => ?_, by rw [List.length_set]; exact I.len⟩
  · by_cases hba : b = a
    · exact ⟨o, by rw [hba, upd_same]⟩
    · obtain ⟨u, e⟩ := (I.own b hb).2.2
      exact ⟨u, keep hba e⟩
  · by_cases hj : j = i
    · rw [if_pos hj] at hb
      rcases hs b hb with q | q
      · exact I.sub i b q
      · exact (hL b q).1
    · rw [if_neg hj] at hb; exact I.sub j b hb
  · skip
    split
    · exact hnd
    · exact I.nd j
  · by_cases hj : j = i
    · rw [if_pos hj] at hb
      have hk : k ≠ i := fun z => hjk (hj.trans z.symm)
      rw [if_neg hk]
      exact hn b hb k hk
    · rw [if_neg hj] at hb
      by_cases hk : k = i
      · rw [if_pos hk]
        exact fun q => hn b q j hj hb
      · rw [if_neg hk]; exact I.dj j k hjk b hb
  · by_cases hj : j = i
    · subst hj
      rw [List.getElem?_set_self (by rw [I.len]; exact hi)] at e
      cases e
      refine ⟨v, hσ, ?_⟩
      rw [if_pos rfl]
      exact ow.mono (Same.refl _) sv
    · rw [List.getElem?_set_ne (fun z => hj z.symm)] at e
      obtain ⟨u, h1, h2⟩ := I.rep j d e
      refine ⟨u, h1, ?_⟩
      rw [if_neg hj]
      exact h2.move sv fun b hb u e => keep (fun z => I.dj i j (fun w => hj w.symm) a ha (z ▸ hb)) e
/-- the list of slot i itself is changed -/
theorem SIw.top {ds ds' : List Dt} {L : List Addr} (I : SIw K H0 G0 O Ls S Γ σ H) (hΓ : Γ[i]? = some (some (.lst ds))) (hn : lv O i = n + 1) (ndL : L.Nodup) (hL : ∀ b ∈ L, b ∈ S ∧ ∀ j, b ∉ Ls j) :
    ∃ a vs, σ[i]? = some (some (.ref a)) ∧ H a = some (.lst vs) ∧ vs.length = ds.length ∧ (∀ (vs' : List V), LOp ds ds' vs vs' L (Ow K (upd H a (.lst vs')) (Vw H0 G0 S H) n) → SI K H0 G0 O (Γ.set i (some (.lst ds'))) σ (upd H a (.lst vs'))) ∧ a ∈ S ∧ a ∉ L := by
  obtain ⟨v, h1, h2⟩ := I.rep i _ hΓ
  rw [hn] at h2
  obtain ⟨a, vs, L', rfl, e2, e3, q⟩ := h2
  have ha : a ∈ Ls i := by rw [e3]; exact List.mem_cons_self
  refine ⟨a, vs, h1, e2, Ows.length q, fun vs' op => ?_, I.sub i a ha, fun z => (hL a z).2 i ha⟩
  have hnd := I.nd i
  rw [e3] at hnd
  obtain ⟨haL', hnd'⟩ := List.nodup_cons.mp hnd
  have q2 : Ows (Ow K (upd H a (.lst vs')) (Vw H0 G0 S H) n) ds vs L' := q.monoL fun d v L1 hs o => o.move (Same.refl _) fun b hb u e => by
    rw [upd_ne (fun z => haL' (by rw [← z]; exact hs b hb))]; exact e
  obtain ⟨L1, o1, h3, h4⟩ := op L' q2
  have hdis : (L' ++ L).Nodup := List.nodup_append.mpr ⟨hnd', ndL, fun b hb c hc z => (hL c hc).2 i (by rw [e3, ← z]; exact List.mem_cons_of_mem _ hb)⟩
  have ha1 : a ∉ L1 := fun z => (h3 a z).elim haL' fun w => (hL a w).2 i ha
  refine I.write (L1 := a :: L1) ha h1 (by rw [hn]; exact ⟨a, vs', L1, rfl, upd_same, rfl, o1⟩) (List.nodup_cons.mpr ⟨ha1, h4 hdis⟩) (fun b hb => ?_) hL
  rcases List.mem_cons.mp hb with rfl | hb
  · exact .inl ha
  · rcases h3 b hb with w | w
    · exact .inl (by rw [e3]; exact List.mem_cons_of_mem _ w)
    · exact .inr w
/-- a row of the list of slot i is changed, by scalars -/
theorem SIw.row {ds es es' : List Dt} {p : Nat} (I : SIw K H0 G0 O Ls S Γ σ H) (hΓ : Γ[i]? = some (some (.lst ds))) (hn : lv O i = n + 2) (hp : ds[p]? = some (.lst es)) :
    ∃ a vs b ws, σ[i]? = some (some (.ref a)) ∧ H a = some (.lst vs) ∧ vs.length = ds.length ∧ vs[p]? = some (.ref b) ∧ H b = some (.lst ws) ∧ ws.length = es.length ∧
      (∀ (ws' : List V), LOp es es' ws ws' [] (Ow K (upd H b (.lst ws')) (Vw H0 G0 S H) n) → SI K H0 G0 O (Γ.set i (some (.lst (ds.set p (.lst es'))))) σ (upd H b (.lst ws'))) ∧ b ∈ S := by
  obtain ⟨v, h1, h2⟩ := I.rep i _ hΓ
  rw [hn] at h2
  obtain ⟨a, vs, L', rfl, e2, e3, q⟩ := h2
  have hpl : p < ds.length := (List.getElem?_eq_some_iff.mp hp).1
  obtain ⟨A, M, B, u, e, rfl, h3, h4, h5, h6, h6'⟩ := Ows.split hpl q
  rw [hp] at h3
  cases h3
  obtain ⟨b, ws, M', rfl, f2, f3, f4⟩ := h5
  have hb : b ∈ Ls i := by rw [e3, f3]; simp
  refine ⟨a, vs, b, ws, h1, e2, Ows.length q, h4, f2, Ows.length f4, fun ws' op => ?_, I.sub i b hb⟩
  have hnd := I.nd i
  rw [e3, f3] at hnd
  obtain ⟨haL, hnd'⟩ := List.nodup_cons.mp hnd
  have hba : b ≠ a := fun z => haL (by rw [← z]; simp)
  have hnd3 := List.nodup_append.mp hnd'
  have hnd4 := List.nodup_append.mp hnd3.1
  obtain ⟨hbM, hM'⟩ := List.nodup_cons.mp hnd4.2.1
  have hbA : b ∉ A := fun z => hnd4.2.2 b z b List.mem_cons_self rfl
  have hbB : b ∉ B := fun z => hnd3.2.2 b (by simp) b z rfl
  have mv : ∀ {n ds vs L}, b ∉ L → Ows (Ow K H (Vw H0 G0 S H) n) ds vs L → Ows (Ow K (upd H b (.lst ws')) (Vw H0 G0 S H) n) ds vs L := fun {n ds vs L} hb o => o.monoL fun d v L1 hs o => o.move (Same.refl _) fun c hc u e => by
    rw [upd_ne (fun z => hb (by rw [← z]; exact hs c hc))]; exact e
  obtain ⟨M1, o1, h7, h8⟩ := op M' (mv hbM f4)
  have hM1 : ∀ c ∈ M1, c ∈ M' := fun c hc => (h7 c hc).elim id fun z => by cases z
  have hbM1 : b ∉ M1 := fun z => hbM (hM1 b z)
  have row : Ow K (upd H b (.lst ws')) (Vw H0 G0 S H) (n + 1) (.lst es') (.ref b) (b :: M1) := ⟨b, ws', M1, rfl, upd_same, rfl, o1⟩
  have same : vs.set p (.ref b) = vs := by
    obtain ⟨hl, e⟩ := List.getElem?_eq_some_iff.mp h4
    rw [← e]
    exact List.set_getElem_self hl
  have q4 := Ows.exch hpl (List.getElem?_eq_some_iff.mp h4).1 (mv hbA h6) (mv hbB h6') row
  rw [same] at q4
  have hM1nd : M1.Nodup := h8 (by rw [List.append_nil]; exact hM')
  refine I.write (L1 := a :: (A ++ (b :: M1) ++ B)) (L := []) hb h1 ?_ ?_ (fun c hc => .inl ?_) (fun c hc => by cases hc)
  · rw [hn]
    exact ⟨a, vs, A ++ (b :: M1) ++ B, rfl, by rw [upd_ne (fun z => hba z.symm)]; exact e2, rfl, q4⟩
  · refine List.nodup_cons.mpr ⟨fun z => haL ?_, List.nodup_append.mpr ⟨List.nodup_append.mpr ⟨hnd4.1, List.nodup_cons.mpr ⟨hbM1, hM1nd⟩, fun c hc d hd => ?_⟩, hnd3.2.1, fun c hc d hd => ?_⟩⟩
    · simp only [List.mem_append, List.mem_cons] at z ⊢
      rcases z with (z | z | z) | z
      · exact .inl (.inl z)
      · exact .inl (.inr (.inl z))
      · exact .inl (.inr (.inr (hM1 a z)))
      · exact .inr z
    · refine hnd4.2.2 c hc d ?_
      rcases List.mem_cons.mp hd with rfl | hd
      · exact List.mem_cons_self
      · exact List.mem_cons_of_mem _ (hM1 d hd)
    · refine hnd3.2.2 c ?_ d hd
      rcases List.mem_append.mp hc with hc | hc
      · exact List.mem_append_left _ hc
      · refine List.mem_append_right _ ?_
        rcases List.mem_cons.mp hc with rfl | hc
        · exact List.mem_cons_self
        · exact List.mem_cons_of_mem _ (hM1 c hc)
  · rw [e3, f3]
    simp only [List.mem_cons, List.mem_append] at hc ⊢
    rcases hc with hc | (hc | hc | hc) | hc
    · exact .inl hc
    · exact .inr (.inl (.inl hc))
    · exact .inr (.inl (.inr (.inl hc)))
    · exact .inr (.inl (.inr (.inr (hM1 c hc))))
    · exact .inr (.inr hc)
end
end DL

set_option Elab.async false
set_option linter.all false
set_option maxRecDepth 100000
set_option maxHeartbeats 1000000
namespace DL
open PySem PySem.Spec PyProof.Rows L2

/-- the list that slot i holds -/
def onL (Γ : Ev) (i : Nat) (f : List Dt → Out) : Out := match Γ[i]? with
  | some (some (.lst ds)) => f ds
  | _ => .bad
@[simp] theorem onL_eq {Γ : Ev} {i : Nat} {ds : List Dt} {f : List Dt → Out} (h : Γ[i]? = some (some (.lst ds))) : onL Γ i f = f ds := by unfold onL; rw [h]
theorem onL_inv {Γ : Ev} {i : Nat} {f : List Dt → Out} : (∃ ds, Γ[i]? = some (some (.lst ds)) ∧ onL Γ i f = f ds) ∨ onL Γ i f = .bad := by
  unfold onL
  cases h : Γ[i]? with
  | none => exact .inr rfl
  | some o =>
    cases o with
    | none => exact .inr rfl
    | some d =>
      cases d with
      | lst ds => exact .inl ⟨ds, rfl, rfl⟩
      | _ => exact .inr rfl
/-- a row of that list -/
def onR (ds : List Dt) (j : Dt) (f : Nat → List Dt → Out) : Out := match j with
  | .int z => match ixN ds.length z with
    | some p => match ds[p]? with
      | some (.lst es) => f p es
      | _ => .bad
    | none => .bad
  | _ => .bad
theorem onR_inv {ds : List Dt} {j : Dt} {f : Nat → List Dt → Out} : (∃ z p es, j = .int z ∧ ixN ds.length z = some p ∧ ds[p]? = some (.lst es) ∧ onR ds j f = f p es) ∨ onR ds j f = .bad := by
  unfold onR
  cases j with
  | int z =>
    dsimp only
    cases h : ixN ds.length z with
    | none => exact .inr rfl
    | some p =>
      dsimp only
      cases h2 : ds[p]? with
      | none => exact .inr rfl
      | some d =>
        cases d with
        | lst es => exact .inl ⟨z, p, es, rfl, h, h2, rfl⟩
        | _ => exact .inr rfl
  | _ => exact .inr rfl
def onI (j : Dt) (f : Int → Out) : Out := match j with
  | .int z => f z
  | _ => .bad
theorem onI_inv {j : Dt} {f : Int → Out} : (∃ z, j = .int z ∧ onI j f = f z) ∨ onI j f = .bad := by
  cases j <;> first | exact .inl ⟨_, rfl, rfl⟩ | exact .inr rfl
def ifO (b : Bool) (o : Out) : Out := if b = true then o else .bad
@[simp] theorem ifO_true (o : Out) : ifO true o = o := rfl
@[simp] theorem ifO_false (o : Out) : ifO false o = .bad := rfl

def rInsert : V → List V → Hp → VK → Prop := fun x vs H Q => ∃ (l : Addr) (xs : List V) (i : Int) (y : V), x = .ref l ∧ vs = [.int i, y] ∧ H l = some (.lst xs) ∧ xs.length < sizeLine ∧ 0 ≤ i ∧ i < 2 ^ 63 ∧
  Q .non (upd H l (.lst (xs.take i.toNat ++ [y] ++ xs.drop i.toNat)))
def sAppT (i k : Nat) (m : Mr) : Ms := fun Γ => onL Γ i fun ds => toOut (m Γ) fun d => ifO (deep k d && decide (ds.length < 16777216)) (.nx (Γ.set i (some (.lst (ds ++ [d])))))
def sAppP (O : List Nat) (i : Nat) (m : Mr) : Ms := fun Γ => onL Γ i fun ds => toOut (m (mask O Γ)) fun d => ifO (decide (ds.length < 16777216)) (.nx (Γ.set i (some (.lst (ds ++ [d])))))
def sIns (i : Nat) (m1 m2 : Mr) : Ms := fun Γ => onL Γ i fun ds => toOut (m1 Γ) fun j => toOut (m2 Γ) fun d => onI j fun z =>
  ifO (isScal d && decide (0 ≤ z) && decide (z < 2 ^ 63) && decide (ds.length < 16777216)) (.nx (Γ.set i (some (.lst (ds.take z.toNat ++ d :: ds.drop z.toNat)))))
def sExtP (O : List Nat) (i : Nat) (m : Mr) : Ms := fun Γ => onL Γ i fun ds => toOut (m (mask O Γ)) fun d => match d with
  | .lst es => ifO (decide (ds.length + es.length ≤ 16777216)) (.nx (Γ.set i (some (.lst (ds ++ es)))))
  | _ => .bad
def atN (n : Nat) (z : Int) (f : Nat → Out) : Out := match ixN n z with
  | some p => f p
  | none => .bad
def sSetT (i k : Nat) (mv mi : Mr) : Ms := fun Γ => onL Γ i fun ds => toOut (mv Γ) fun d => toOut (mi Γ) fun j => ifO (deep k d) (onI j fun z => atN ds.length z fun p => .nx (Γ.set i (some (.lst (ds.set p d)))))
def sSet2 (i : Nat) (mv m1 m2 : Mr) : Ms := fun Γ => onL Γ i fun ds => toOut (mv Γ) fun d => toOut (m1 Γ) fun j1 => onR ds j1 fun p es => toOut (m2 Γ) fun j2 => ifO (isScal d) (onI j2 fun z => atN es.length z fun q => .nx (Γ.set i (some (.lst (ds.set p (.lst (es.set q d)))))))
def sAppR (i : Nat) (m1 mv : Mr) : Ms := fun Γ => onL Γ i fun ds => toOut (m1 Γ) fun j1 => onR ds j1 fun p es => toOut (mv Γ) fun d => ifO (isScal d && decide (es.length < 16777216)) (.nx (Γ.set i (some (.lst (ds.set p (.lst (es ++ [d])))))))
def sClrR (i : Nat) (m1 : Mr) : Ms := fun Γ => onL Γ i fun ds => toOut (m1 Γ) fun j1 => onR ds j1 fun p es => .nx (Γ.set i (some (.lst (ds.set p (.lst [])))))
def sPop (i : Nat) : Ms := fun Γ => onL Γ i fun ds => ifO (!ds.isEmpty) (.nx (Γ.set i (some (.lst ds.dropLast))))
theorem atN_po {K : PySem.W.Frag} {cm : Nat → Value} {W : WX} {nr : Nat} {O : List Nat} {H0 G0 : Hp} {n : Nat} {z : Int} {f : Nat → Out} {D : Ends} (po : SPost K cm W nr H0 G0 O (atN n z f) D) : ∃ p, ixN n z = some p ∧ SPost K cm W nr H0 G0 O (f p) D := by
  unfold atN at po
  cases h : ixN n z with
  | none => rw [h] at po; exact po.elim
  | some p => rw [h] at po; exact ⟨p, rfl, po⟩

section
variable {X : Cx} {cm : Nat → Value} {W : WX} {nr : Nat} {O O' : List Nat} {i k n : Nat} {o e e1 e2 e3 : Expr} {me m1 m2 m3 : Mr} {ap cp p1 p2 pos : Pos}
theorem lst_ty {K : PySem.W.Frag} {H : Hp} {a : Addr} {vs : List V} (h : H a = some (.lst vs)) : tyV K "list" (.ref a) H := .inl ⟨rfl, vs, .inl (.inl h)⟩
/-- a scalar in a T-read: what a statement needs of it -/
theorem tD_S {H0 G0 H : Hp} {Ls : Nat → List Addr} {S : List Addr} {Γ : Ev} {σ : L2.St} {m : Mr} {Q : VK} {f : Dt → Out} {D : Ends} (I : SIw X.K H0 G0 O Ls S Γ σ H) (po : SPost X.K cm W nr H0 G0 O' (toOut (m Γ) f) D)
    (q : ∀ d v H', Same H H' → SPost X.K cm W nr H0 G0 O' (f d) D → (isScal d = true → Rp X.K H' d v) → (∀ z, d = .int z → v = .int z) → Q v H') : tD X.K cm (WE W) 0 m σ H Q := by
  refine tD_T I (fun c e H' s => ?_) (fun e => ?_) fun d v H' G' L e hh st nd fr ow => ?_
  · rw [e] at po; exact po σ H' s
  · rw [e] at po; exact po
  · rw [e, toOut_ok] at po
    rw [Ow.zero] at ow
    exact q d v H' hh po (fun _ => ow.2.mono st.s) fun z hz => by subst hz; exact ow.2
theorem ifO_po {K : PySem.W.Frag} {H0 G0 : Hp} {b : Bool} {o : Out} {D : Ends} (po : SPost K cm W nr H0 G0 O (ifO b o) D) : b = true ∧ SPost K cm W nr H0 G0 O o D := by
  cases b with
  | true => exact ⟨rfl, po⟩
  | false => exact (show False from po).elim
theorem onL_po {K : PySem.W.Frag} {H0 G0 : Hp} {Γ : Ev} {f : List Dt → Out} {D : Ends} (po : SPost K cm W nr H0 G0 O (onL Γ i f) D) : ∃ ds, Γ[i]? = some (some (.lst ds)) ∧ SPost K cm W nr H0 G0 O (f ds) D := by
  rcases onL_inv (Γ := Γ) (i := i) (f := f) with ⟨ds, h1, h2⟩ | h
  · rw [h2] at po; exact ⟨ds, h1, po⟩
  · rw [h] at po; exact po.elim
theorem onR_po {K : PySem.W.Frag} {H0 G0 : Hp} {ds : List Dt} {j : Dt} {f : Nat → List Dt → Out} {D : Ends} (po : SPost K cm W nr H0 G0 O (onR ds j f) D) : ∃ z p es, j = .int z ∧ ixN ds.length z = some p ∧ ds[p]? = some (.lst es) ∧ SPost K cm W nr H0 G0 O (f p es) D := by
  rcases onR_inv (ds := ds) (j := j) (f := f) with ⟨z, p, es, h1, h2, h3, h4⟩ | h
  · rw [h4] at po; exact ⟨z, p, es, h1, h2, h3, po⟩
  · rw [h] at po; exact po.elim
theorem onI_po {K : PySem.W.Frag} {H0 G0 : Hp} {j : Dt} {f : Int → Out} {D : Ends} (po : SPost K cm W nr H0 G0 O (onI j f) D) : ∃ z, j = .int z ∧ SPost K cm W nr H0 G0 O (f z) D := by
  rcases onI_inv (j := j) (f := f) with ⟨z, h1, h2⟩ | h
  · rw [h2] at po; exact ⟨z, h1, po⟩
  · rw [h] at po; exact po.elim
theorem rp_ow {K : PySem.W.Frag} {G H' G' : Hp} {d : Dt} {v : V} (h : isScal d = true) (r : Rp K G d v) : Ow K H' G' n d v [] :=
  (Ow.scal (H := G) (G := G) (n := 0) (L := []) h (by rw [Ow.zero]; exact ⟨rfl, r⟩)).2.1
theorem nil_fr {P : Addr → Prop} : ∀ b ∈ ([] : List Addr), P b := fun b h => by cases h
theorem fresh_no {K : PySem.W.Frag} {H0 G0 H : Hp} {Ls : Nat → List Addr} {S L : List Addr} {Γ : Ev} {σ : L2.St} (I : SIw K H0 G0 O Ls S Γ σ H) (fr : ∀ a ∈ L, H a = none) : ∀ b ∈ L, b ∈ L ++ S ∧ ∀ j, b ∉ Ls j := fun b hb =>
  ⟨List.mem_append_left _ hb, fun j q => by
    obtain ⟨u, e⟩ := (I.own b (I.sub j b q)).2.2
    rw [fr b hb] at e; cases e⟩
theorem and_t {a b : Bool} (h : (a && b) = true) : a = true ∧ b = true := by simpa using h
section
variable (hO : lv O i = n + 1)
include hO
theorem ds_appT (hk : k ≤ n) (h : PE X e (tBM X.K "list" rAppend (tVar i) (tCons (tD X.K cm (WE W) k me) tNil))) (hs : swapsWith e none pos.line X.env = pure false := by rfl) : DS X cm W nr O O (.Expr e pos) (sAppT i k me) := by
  refine PS.of (ps_expr h hs) fun D σ H ⟨H0, G0, Γ, ⟨Ls, S, I⟩, po⟩ => ?_
  obtain ⟨ds, hΓ, po⟩ := onL_po po
  obtain ⟨a, vs, hσ, hH, hlen, _⟩ := I.top (ds' := ds) hΓ hO List.nodup_nil nil_fr
  refine ⟨.ref a, hσ, lst_ty hH, ?_⟩
  refine tD_T I (fun c e H' s => ?_) (fun e => ?_) fun d v H' G' L e hh st nd fr ow => ?_
  · rw [e] at po; exact po σ H' s
  · rw [e] at po; exact po
  · rw [e, toOut_ok] at po
    obtain ⟨hc, po⟩ := ifO_po po
    obtain ⟨hd, hz⟩ := and_t hc
    have hz := of_decide_eq_true hz
    have J := I.more hh (fun b hb => ⟨(fr b hb).1, ow.there b hb⟩)
    obtain ⟨a', vs', hσ', hH', hlen', fin, haS, haL⟩ := J.top (ds' := ds ++ [d]) hΓ hO nd (fresh_no I fun b hb => (fr b hb).1)
    rw [hσ] at hσ'
    cases hσ'
    rw [hh _ _ hH] at hH'
    cases hH'
    refine ⟨a, vs, v, rfl, rfl, hh _ _ hH, by rw [hlen, sizeLine_eq]; exact hz, po _ _ (fin (vs ++ [v]) (lop_append ?_))⟩
    refine (ow.deep (G' := Vw H0 G0 (L ++ S) H') hd hk).move (Same.refl _) fun b hb u e => ?_
    rw [upd_ne (fun z => haL (by rw [← z]; exact hb))]; exact e
theorem ds_appP (h : PE X e (tBM X.K "list" rAppend (tVar i) (tCons (tD X.K cm (WE W) n me) tNil))) (hs : swapsWith e none pos.line X.env = pure false := by rfl) : DS X cm W nr O O (.Expr e pos) (sAppP O i me) := by
  refine PS.of (ps_expr h hs) fun D σ H ⟨H0, G0, Γ, ⟨Ls, S, I⟩, po⟩ => ?_
  obtain ⟨ds, hΓ, po⟩ := onL_po po
  obtain ⟨a, vs, hσ, hH, hlen, _⟩ := I.top (ds' := ds) hΓ hO List.nodup_nil nil_fr
  refine ⟨.ref a, hσ, lst_ty hH, ?_⟩
  refine tD_P I (fun c e H' s => ?_) (fun e => ?_) fun d v H' G' L e hh st nd fr ow => ?_
  · rw [e] at po; exact po σ H' s
  · rw [e] at po; exact po
  · rw [e, toOut_ok] at po
    obtain ⟨hz, po⟩ := ifO_po po
    have hz := of_decide_eq_true hz
    have J := I.more hh (fun b hb => ⟨(fr b hb).1, ow.there b hb⟩)
    obtain ⟨a', vs', hσ', hH', hlen', fin, haS, haL⟩ := J.top (ds' := ds ++ [d]) hΓ hO nd (fresh_no I fun b hb => (fr b hb).1)
    rw [hσ] at hσ'
    cases hσ'
    rw [hh _ _ hH] at hH'
    cases hH'
    refine ⟨a, vs, v, rfl, rfl, hh _ _ hH, by rw [hlen, sizeLine_eq]; exact hz, po _ _ (fin (vs ++ [v]) (lop_append ?_))⟩
    refine ow.move (view_P I st fr) fun b hb u e => ?_
    rw [upd_ne (fun z => haL (by rw [← z]; exact hb))]; exact e
theorem ds_extP (hn : n = 0) (h : PE X e (tBM X.K "list" rExtend (tVar i) (tCons (tD X.K cm (WE W) 0 me) tNil))) (hs : swapsWith e none pos.line X.env = pure false := by rfl) : DS X cm W nr O O (.Expr e pos) (sExtP O i me) := by
  subst hn
  refine PS.of (ps_expr h hs) fun D σ H ⟨H0, G0, Γ, ⟨Ls, S, I⟩, po⟩ => ?_
  obtain ⟨ds, hΓ, po⟩ := onL_po po
  obtain ⟨a, vs, hσ, hH, hlen, _⟩ := I.top (ds' := ds) hΓ hO List.nodup_nil nil_fr
  refine ⟨.ref a, hσ, lst_ty hH, ?_⟩
  refine tD_P I (fun c e H' s => ?_) (fun e => ?_) fun d v H' G' L e hh st nd fr ow => ?_
  · rw [e] at po; exact po σ H' s
  · rw [e] at po; exact po
  · rw [e, toOut_ok] at po
    cases d with
    | lst es =>
      obtain ⟨hz, po⟩ := ifO_po po
      have hz := of_decide_eq_true hz
      rw [Ow.zero] at ow
      obtain ⟨rfl, b, ws, rfl, hGb, rb⟩ := ow
      obtain ⟨a', vs', hσ', hH', hlen', fin, haS, haL⟩ := (I.grow hh).top (ds' := ds ++ es) hΓ hO List.nodup_nil nil_fr
      rw [hσ] at hσ'
      cases hσ'
      rw [hh _ _ hH] at hH'
      cases hH'
      refine ⟨a, b, vs, ws, rfl, rfl, hh _ _ hH, st.s _ _ hGb, by rw [hlen, rb.length, sizeLine_eq]; exact hz, po _ _ (fin (vs ++ ws) (lop_extend (Ows.of_zero (rb.mono ?_))))⟩
      exact view_P I st fr
    | _ => exact (show False from po).elim
theorem ds_ins (h : PE X e (tBM X.K "list" rInsert (tVar i) (tCons (tD X.K cm (WE W) 0 m1) (tCons (tD X.K cm (WE W) 0 m2) tNil)))) (hs : swapsWith e none pos.line X.env = pure false := by rfl) : DS X cm W nr O O (.Expr e pos) (sIns i m1 m2) := by
  refine PS.of (ps_expr h hs) fun D σ H ⟨H0, G0, Γ, ⟨Ls, S, I⟩, po⟩ => ?_
  obtain ⟨ds, hΓ, po⟩ := onL_po po
  obtain ⟨a, vs, hσ, hH, hlen, _⟩ := I.top (ds' := ds) hΓ hO List.nodup_nil nil_fr
  refine ⟨.ref a, hσ, lst_ty hH, ?_⟩
  refine tD_S I po fun j u H1 hh1 po1 _ hj => ?_
  refine tD_S (I.grow hh1) po1 fun d v H2 hh2 po2 hv _ => ?_
  obtain ⟨z, rfl, po2⟩ := onI_po po2
  obtain ⟨hc, po2⟩ := ifO_po po2
  obtain ⟨hc, hz⟩ := and_t hc
  obtain ⟨hc, hz2⟩ := and_t hc
  obtain ⟨hd, hz1⟩ := and_t hc
  have hz := of_decide_eq_true hz
  have hh := hh1.trans hh2
  obtain ⟨a', vs', hσ', hH', hlen', fin, haS, haL⟩ := (I.grow hh).top (ds' := ds.take z.toNat ++ d :: ds.drop z.toNat) hΓ hO List.nodup_nil nil_fr
  rw [hσ] at hσ'
  cases hσ'
  rw [hh _ _ hH] at hH'
  cases hH'
  refine ⟨a, vs, z, v, rfl, by rw [hj z rfl], hh _ _ hH, by rw [hlen, sizeLine_eq]; exact hz, of_decide_eq_true hz1, of_decide_eq_true hz2, ?_⟩
  rw [List.append_assoc]
  exact po2 _ _ (fin _ (lop_insert (rp_ow hd (hv hd))))
theorem ds_setI (hk : k ≤ n) {tg : Expr} (he : DE X cm (WE W) k e me) (hg : PG X tg (gSub (tVar i) (tD X.K cm (WE W) 0 m1) rSetL)) (hs : swapsWithSole [tg] e pos.line X.env = pure false := by rfl) (hw : swappedStores [tg] e X.env = pure none := by rfl)
    (h1 : (assignEach [tg] X.env).map (·.2) = [assign tg X.env] := by rfl) : DS X cm W nr O O (.Assign [tg] e pos) (sSetT i k me m1) := by
  refine PS.of (ps_asg he hg hs hw h1) fun D σ H ⟨H0, G0, Γ, ⟨Ls, S, I⟩, po⟩ => ?_
  obtain ⟨ds, hΓ, po⟩ := onL_po po
  refine tD_T I (fun c e H' s => ?_) (fun e => ?_) fun d v H' G' L e hh st nd fr ow => ?_
  · rw [e] at po; exact po σ H' s
  · rw [e] at po; exact po
  · rw [e, toOut_ok] at po
    have J := I.more hh (fun b hb => ⟨(fr b hb).1, ow.there b hb⟩)
    obtain ⟨a, vs, hσ, hH, hlen, _⟩ := J.top (ds' := ds) hΓ hO List.nodup_nil nil_fr
    refine ⟨.ref a, hσ, ?_⟩
    refine tD_S J po fun j u H1 hh1 po1 _ hj => ?_
    obtain ⟨hd, po1⟩ := ifO_po po1
    obtain ⟨z, rfl, po1⟩ := onI_po po1
    obtain ⟨p, hp, po1⟩ := atN_po po1
    obtain ⟨a', vs', hσ', hH', hlen', fin, haS, haL⟩ := (J.grow hh1).top (ds' := ds.set p d) hΓ hO nd (fresh_no I fun b hb => (fr b hb).1)
    rw [hσ] at hσ'
    cases hσ'
    rw [hh1 _ _ hH] at hH'
    cases hH'
    have hpl : p < ds.length := (ixN_seq hp).2.1
    refine ⟨a, vs, z, p, rfl, hj z rfl, hh1 _ _ hH, by rw [hlen]; exact hp, po1 _ _ (fin (vs.set p v) (lop_set hpl ?_))⟩
    refine ((ow.deep (G' := Vw H0 G0 (L ++ S) H1) hd hk).mono hh1 (Same.refl _)).move (Same.refl _) fun b hb u e => ?_
    rw [upd_ne (fun z => haL (by rw [← z]; exact hb))]; exact e
theorem ds_pop (h : PE X e (tBM0 X.K "list" rPop (tVar i))) (hs : swapsWith e none pos.line X.env = pure false := by rfl) : DS X cm W nr O O (.Expr e pos) (sPop i) := by
  refine PS.of (ps_expr h hs) fun D σ H ⟨H0, G0, Γ, ⟨Ls, S, I⟩, po⟩ => ?_
  obtain ⟨ds, hΓ, po⟩ := onL_po po
  obtain ⟨hc, po⟩ := ifO_po po
  obtain ⟨a, vs, hσ, hH, hlen, fin, haS, haL⟩ := I.top (ds' := ds.dropLast) hΓ hO List.nodup_nil nil_fr
  have hne : 0 < vs.length := by
    rw [hlen]
    cases ds with
    | nil => cases hc
    | cons d ds => simp
  exact ⟨.ref a, hσ, lst_ty hH, a, vs, vs[vs.length - 1], rfl, rfl, hH, List.getElem?_eq_getElem (by omega), po _ _ (fin _ lop_dropLast)⟩
end
section
variable (hO : lv O i = n + 2)
include hO
theorem row_ix {H0 G0 H : Hp} {Ls : Nat → List Addr} {S : List Addr} {Γ : Ev} {σ : L2.St} {a b : Addr} {vs : List V} {p : Nat} {z : Int} {Q : VK} (hσ : σ[i]? = some (some (.ref a))) (hH : H a = some (.lst vs)) (hp : ixN vs.length z = some p) (hb : vs[p]? = some (.ref b)) (q : Q (.ref b) H) : rIx X.K (.ref a) (.int z) H Q :=
  .inl ⟨a, vs, z, .ref b, rfl, rfl, .inl (.inl hH), by unfold atI; rw [hp]; exact hb, q⟩
theorem ds_set2 {tg : Expr} (he : DE X cm (WE W) 0 e me) (hg : PG X tg (gSub (tOp (rIx X.K) (tVar i) (tD X.K cm (WE W) 0 m1)) (tD X.K cm (WE W) 0 m2) rSetL)) (hs : swapsWithSole [tg] e pos.line X.env = pure false := by rfl) (hw : swappedStores [tg] e X.env = pure none := by rfl)
    (h1 : (assignEach [tg] X.env).map (·.2) = [assign tg X.env] := by rfl) : DS X cm W nr O O (.Assign [tg] e pos) (sSet2 i me m1 m2) := by
  refine PS.of (ps_asg he hg hs hw h1) fun D σ H ⟨H0, G0, Γ, ⟨Ls, S, I⟩, po⟩ => ?_
  obtain ⟨ds, hΓ, po⟩ := onL_po po
  refine tD_S I po fun d v H1 hh1 po1 hv _ => ?_
  have I1 := I.grow hh1
  obtain ⟨a0, vs0, hσ0, hH0, hlen0, _⟩ := I1.top (ds' := ds) (n := n + 1) hΓ hO List.nodup_nil nil_fr
  refine ⟨.ref a0, hσ0, ?_⟩
  refine tD_S I1 po1 fun j1 u1 H2 hh2 po2 _ hj1 => ?_
  have I2 := I1.grow hh2
  obtain ⟨z1, p, es, rfl, hp, hes, po2⟩ := onR_po po2
  obtain ⟨a, vs, b, ws, hσ, hH, hlen, hb, hHb, hwl, _, _⟩ := I2.row (es' := es) hΓ hO hes
  rw [hσ0] at hσ
  cases hσ
  rw [hj1 z1 rfl]
  refine row_ix hO (H0 := H0) (G0 := G0) (Ls := Ls) (S := S) (Γ := Γ) hσ0 hH (by rw [hlen]; exact hp) hb ?_
  refine tD_S I2 po2 fun j2 u2 H3 hh3 po3 _ hj2 => ?_
  obtain ⟨hd, po3⟩ := ifO_po po3
  obtain ⟨z2, rfl, po3⟩ := onI_po po3
  obtain ⟨q, hq, po3⟩ := atN_po po3
  have I3 := I2.grow hh3
  obtain ⟨a', vs', b', ws', hσ', hH', hlen', hb', hHb', hwl', fin, _⟩ := I3.row (es' := es.set q d) hΓ hO hes
  rw [hσ0] at hσ'
  cases hσ'
  rw [hh3 _ _ hH] at hH'
  cases hH'
  rw [hb] at hb'
  cases hb'
  rw [hh3 _ _ hHb] at hHb'
  cases hHb'
  exact ⟨b, ws, z2, q, rfl, hj2 z2 rfl, hh3 _ _ hHb, by rw [hwl]; exact hq, po3 _ _ (fin (ws.set q v) (lop_set (ixN_seq hq).2.1 (rp_ow hd (hv hd))))⟩
theorem ds_appR (h : PE X e (tBM X.K "list" rAppend (tOp (rIx X.K) (tVar i) (tD X.K cm (WE W) 0 m1)) (tCons (tD X.K cm (WE W) 0 me) tNil))) (hs : swapsWith e none pos.line X.env = pure false := by rfl) : DS X cm W nr O O (.Expr e pos) (sAppR i m1 me) := by
  refine PS.of (ps_expr h hs) fun D σ H ⟨H0, G0, Γ, ⟨Ls, S, I⟩, po⟩ => ?_
  obtain ⟨ds, hΓ, po⟩ := onL_po po
  obtain ⟨a0, vs0, hσ0, hH0, hlen0, _⟩ := I.top (ds' := ds) (n := n + 1) hΓ hO List.nodup_nil nil_fr
  refine ⟨.ref a0, hσ0, ?_⟩
  refine tD_S I po fun j1 u1 H2 hh2 po2 _ hj1 => ?_
  have I2 := I.grow hh2
  obtain ⟨z1, p, es, rfl, hp, hes, po2⟩ := onR_po po2
  obtain ⟨a, vs, b, ws, hσ, hH, hlen, hb, hHb, hwl, _, _⟩ := I2.row (es' := es) hΓ hO hes
  rw [hσ0] at hσ
  cases hσ
  rw [hj1 z1 rfl]
  refine row_ix hO (H0 := H0) (G0 := G0) (Ls := Ls) (S := S) (Γ := Γ) hσ0 hH (by rw [hlen]; exact hp) hb ?_
  refine ⟨lst_ty hHb, ?_⟩
  refine tD_S I2 po2 fun d v H3 hh3 po3 hv _ => ?_
  obtain ⟨hc, po3⟩ := ifO_po po3
  obtain ⟨hd, hz⟩ := and_t hc
  have hz := of_decide_eq_true hz
  have I3 := I2.grow hh3
  obtain ⟨a', vs', b', ws', hσ', hH', hlen', hb', hHb', hwl', fin, _⟩ := I3.row (es' := es ++ [d]) hΓ hO hes
  rw [hσ0] at hσ'
  cases hσ'
  rw [hh3 _ _ hH] at hH'
  cases hH'
  rw [hb] at hb'
  cases hb'
  rw [hh3 _ _ hHb] at hHb'
  cases hHb'
  exact ⟨b, ws, v, rfl, rfl, hh3 _ _ hHb, by rw [hwl, sizeLine_eq]; exact hz, po3 _ _ (fin (ws ++ [v]) (lop_append (rp_ow hd (hv hd))))⟩
theorem ds_clrR (h : PE X e (tBM0 X.K "list" rClear (tOp (rIx X.K) (tVar i) (tD X.K cm (WE W) 0 m1)))) (hs : swapsWith e none pos.line X.env = pure false := by rfl) : DS X cm W nr O O (.Expr e pos) (sClrR i m1) := by
  refine PS.of (ps_expr h hs) fun D σ H ⟨H0, G0, Γ, ⟨Ls, S, I⟩, po⟩ => ?_
  obtain ⟨ds, hΓ, po⟩ := onL_po po
  obtain ⟨a0, vs0, hσ0, hH0, hlen0, _⟩ := I.top (ds' := ds) (n := n + 1) hΓ hO List.nodup_nil nil_fr
  refine ⟨.ref a0, hσ0, ?_⟩
  refine tD_S I po fun j1 u1 H2 hh2 po2 _ hj1 => ?_
  have I2 := I.grow hh2
  obtain ⟨z1, p, es, rfl, hp, hes, po2⟩ := onR_po po2
  obtain ⟨a, vs, b, ws, hσ, hH, hlen, hb, hHb, hwl, fin, _⟩ := I2.row (es' := []) hΓ hO hes
  rw [hσ0] at hσ
  cases hσ
  rw [hj1 z1 rfl]
  refine row_ix hO (H0 := H0) (G0 := G0) (Ls := Ls) (S := S) (Γ := Γ) hσ0 hH (by rw [hlen]; exact hp) hb ?_
  exact ⟨lst_ty hHb, b, ws, rfl, rfl, hHb, po2 _ _ (fin [] lop_clear)⟩
end
end
end DL

set_option Elab.async false
set_option linter.all false
set_option maxRecDepth 100000
set_option maxHeartbeats 1000000
namespace DL
open PySem PySem.Spec PyProof.Rows L2

theorem sp_len {K : PySem.W.Frag} {cm : Nat → Value} {k nr : Nat} {f : List Dt → Res Dt} {vs : List V} {H : Hp} {Q : VK} {E : XK} (h : spD K cm k nr f vs H Q E) : vs.length = k := by
  obtain ⟨ds, G, hl, _, r, _⟩ := h
  rw [r.length, hl]
section
variable {P : Program} {w : World} {K : PySem.W.Frag} {mg : Str → Option Value} {base : Heap} {cm : Nat → Value}
/-- a def's promise from its body's derivation -/
theorem okD {x qual : Str} {st : Stmt} {f : Addr} {fd : FuncData} {N ps : List Str} {k nr : Nat} {O O' : List Nat} {mb : Ms} (F : Fun K x qual st f fd) (S : FnScope N ps (defScope st)) (hO : lwB [] O = true)
    (hb : ∀ (cdv : Value) (A : Around) (outer : List PySem.Env) (s : Shared) (H : Hp) (E : XK), Room k (A.deeper (envOfC qual (defScope st) s.heap.objs.size f cdv)) →
      DSs (cxOf (L2.CX P w) P w K mg base N qual (defScope st) f cdv A outer s H E) cm (fun cls d _ H => E cls d H) nr O O' (defBody st) mb) :
    FnOk P w K mg base (L2.CX P w) (k + 1) f fd ps (spD K cm ps.length nr (runF N.length mb)) :=
  F.okX S (fun vs H Q E h => sp_len h) fun cdv A outer s H vs Q E hr h => ⟨tS K cm (fun cls d _ H => E cls d H) nr O O' mb, hb cdv A outer s H E hr, body_ok hO h⟩
end
theorem hu65 {A : Around} {k : Nat} (hr : Room k A) : A.units + 65 < cLine := by have := hr.un; omega
theorem hu64 {A : Around} {k : Nat} (hr : Room k A) : A.units + 64 < cLine := by have := hr.un; omega

/-- a scalar at any depth -/
theorem de_scal {X : Cx} {cm : Nat → Value} {E : L2.St → XK} {k n : Nat} {e : Expr} {m : Mr} (h : DE X cm E k e m) : DE X cm E n e (mDeep 0 m) :=
  de_deep (Nat.zero_le _) (de_zero h)

/-- x.append(y), y owned: it goes over -/
def sAppM (i j : Nat) : Ms := fun Γ => onL Γ i fun ds => match Γ[j]? with
  | some (some d) => ifO (decide (ds.length < 16777216)) (.nx ((Γ.set j none).set i (some (.lst (ds ++ [d])))))
  | _ => .bad
section
variable {X : Cx} {cm : Nat → Value} {W : WX} {nr : Nat} {O : List Nat} {i j n : Nat} {e : Expr} {pos : Pos}
theorem SIw.drop {K : PySem.W.Frag} {H0 G0 H : Hp} {Ls : Nat → List Addr} {S : List Addr} {Γ : Ev} {σ : L2.St} (I : SIw K H0 G0 O Ls S Γ σ H) (j : Nat) : SIw K H0 G0 O (fun k => if k = j then [] else Ls k) S (Γ.set j none) σ H := by
  refine ⟨I.h0, I.g0, I.own, fun k a ha => ?_, fun k => ?_, fun k l hkl a ha => ?_, fun k d e => ?_, by rw [List.length_set]; exact I.len⟩
  · by_cases hk : k = j
    · rw [if_pos hk] at ha; cases ha
    · rw [if_neg hk] at ha; exact I.sub k a ha
  · skip
    split
    · exact List.nodup_nil
    · exact I.nd k
  · by_cases hk : k = j
    · rw [if_pos hk] at ha; cases ha
    · rw [if_neg hk] at ha
      split
      · exact fun z => by cases z
      · exact I.dj k l hkl a ha
  · by_cases hk : k = j
    · subst hk
      by_cases hlt : k < Γ.length
      · rw [List.getElem?_set_self hlt] at e; cases e
      · rw [List.getElem?_eq_none (by rw [List.length_set]; omega)] at e; cases e
    · rw [List.getElem?_set_ne (fun z => hk z.symm)] at e
      obtain ⟨v, h1, h2⟩ := I.rep k d e
      refine ⟨v, h1, ?_⟩
      rw [if_neg hk]
      exact h2
theorem ds_appM (hO : lv O i = n + 1) (hj : lv O j = n) (hij : i ≠ j) (h : PE X e (tBM X.K "list" rAppend (tVar i) (tCons (tVar j) tNil))) (hs : swapsWith e none pos.line X.env = pure false := by rfl) : DS X cm W nr O O (.Expr e pos) (sAppM i j) := by
  refine PS.of (ps_expr h hs) fun D σ H ⟨H0, G0, Γ, ⟨Ls, S, I⟩, po⟩ => ?_
  obtain ⟨ds, hΓ, po⟩ := onL_po po
  cases hx : Γ[j]? with
  | none => rw [hx] at po; exact (show False from po).elim
  | some od =>
    cases od with
    | none => rw [hx] at po; exact (show False from po).elim
    | some d =>
      rw [hx] at po
      obtain ⟨hz, po⟩ := ifO_po po
      have hz := of_decide_eq_true hz
      obtain ⟨v, hv, ow⟩ := I.rep j d hx
      rw [hj] at ow
      have J := I.drop j
      have hΓ' : (Γ.set j none)[i]? = some (some (.lst ds)) := by rw [List.getElem?_set_ne hij.symm]; exact hΓ
      obtain ⟨a, vs, hσ, hH, hlen, fin, haS, haL⟩ := J.top (ds' := ds ++ [d]) (L := Ls j) hΓ' hO (I.nd j) fun b hb => ⟨I.sub j b hb, fun k => by
        split
        · exact fun z => by cases z
        · rename_i hk; exact I.dj j k (fun z => hk z.symm) b hb⟩
      refine ⟨.ref a, hσ, lst_ty hH, v, hv, a, vs, v, rfl, rfl, hH, by rw [hlen, sizeLine_eq]; exact hz, po _ _ (fin (vs ++ [v]) (lop_append ?_))⟩
      refine ow.move (Same.refl _) fun b hb u e => ?_
      rw [upd_ne (fun z => haL (by rw [← z]; exact hb))]; exact e

/-! ### unpacking -/
/-- a, b = x, y (scalars) -/
def sPar (i j : Nat) (m1 m2 : Mr) : Ms := fun Γ => toOut (m1 Γ) fun d1 => toOut (m2 Γ) fun d2 => ifO (isScal d1 && isScal d2) (.nx ((Γ.set i (some d1)).set j (some d2)))
theorem SI.put0 {K : PySem.W.Frag} {H0 G0 H : Hp} {Γ : Ev} {σ : L2.St} {d : Dt} {v : V} (I : SI K H0 G0 O Γ σ H) (hO : lv O i = 0) (hd : isScal d = true) (r : Rp K H d v) : SI K H0 G0 O (Γ.set i (some d)) (σ.set i (some v)) H := by
  obtain ⟨Ls, S, I⟩ := I
  exact I.store (n := 0) (L := []) (Same.refl _) List.nodup_nil (fun a ha => by cases ha) (rp_ow hd r) hO fun j _ => rfl
theorem ds_par {st : Stmt} {ta : TA} {m1 m2 : Mr} (hO : lv O i = 0) (hO' : lv O j = 0) (h : PS X st (tPar i j (tCons (tD X.K cm (WE W) 0 m1) (tCons (tD X.K cm (WE W) 0 m2) tNil)))) : DS X cm W nr O O st (sPar i j m1 m2) := by
  refine PS.of h fun D σ H ⟨H0, G0, Γ, ⟨Ls, S, I⟩, po⟩ => ?_
  unfold sPar at po
  refine tD_S I po fun d1 v1 H1 hh1 po1 hv1 _ => ?_
  refine tD_S (I.grow hh1) po1 fun d2 v2 H2 hh2 po2 hv2 _ => ?_
  obtain ⟨hc, po2⟩ := ifO_po po2
  obtain ⟨h1, h2⟩ := and_t hc
  have I2 : SI X.K H0 G0 O Γ σ H2 := ⟨Ls, S, (I.grow hh1).grow hh2⟩
  exact ⟨v1, v2, rfl, po2 _ _ ((I2.put0 hO h1 ((hv1 h1).mono hh2)).put0 hO' h2 (hv2 h2))⟩
end
end DL

set_option Elab.async false
set_option linter.all false
set_option maxRecDepth 100000
set_option maxHeartbeats 4000000
namespace DL
open PySem PySem.Spec PyProof.Rows L2

/-! ### the members of a list of ints, each once -/
def insD (x : Int) (r : List Int) : List Int := if x ∈ r then r else x :: r
def ddI : List Int → List Int
  | [] => []
  | x :: l => insD x (ddI l)
theorem ddI_mem : ∀ (l : List Int) (k : Int), k ∈ ddI l ↔ k ∈ l
  | [], k => Iff.rfl
  | x :: l, k => by
    unfold ddI insD
    have ih := ddI_mem l k
    split
    · rename_i h
      rw [List.mem_cons, ih]
      refine ⟨fun z => .inr z, fun z => z.elim (fun e => ?_) id⟩
      subst e
      exact (ddI_mem l k).mp h
    · rw [List.mem_cons, List.mem_cons, ih]
theorem ddI_nodup : ∀ l : List Int, (ddI l).Nodup
  | [] => List.nodup_nil
  | x :: l => by
    unfold ddI insD
    split
    · exact ddI_nodup l
    · rename_i h
      exact List.nodup_cons.mpr ⟨h, ddI_nodup l⟩
theorem ddI_len : ∀ l : List Int, (ddI l).length ≤ l.length
  | [] => Nat.le_refl _
  | x :: l => by
    unfold ddI insD
    have := ddI_len l
    split
    · rw [List.length_cons]; omega
    · rw [List.length_cons, List.length_cons]; omega
theorem nodup_le : ∀ {a b : List Int}, a.Nodup → (∀ k, k ∈ a → k ∈ b) → a.length ≤ b.length
  | [], b, _, _ => Nat.zero_le _
  | x :: a, b, h, s => by
    obtain ⟨h1, h2⟩ := List.nodup_cons.mp h
    have hx := s x List.mem_cons_self
    have e : (b.erase x).length = b.length - 1 := by rw [List.length_erase, if_pos hx]
    have hp : 0 < b.length := List.length_pos_of_mem hx
    have q : a.length ≤ (b.erase x).length := nodup_le h2 fun k hk => by
      have ne : k ≠ x := fun z => h1 (z ▸ hk)
      exact (List.mem_erase_of_ne ne).mpr (s k (List.mem_cons_of_mem _ hk))
    rw [List.length_cons]
    omega
theorem nodup_len {a b : List Int} (ha : a.Nodup) (hb : b.Nodup) (h : ∀ k, k ∈ a ↔ k ∈ b) : a.length = b.length :=
  Nat.le_antisymm (nodup_le ha fun k => (h k).mp) (nodup_le hb fun k => (h k).mpr)
theorem nodup_perm {a b : List Int} (ha : a.Nodup) (hb : b.Nodup) (h : ∀ k, k ∈ a ↔ k ∈ b) : a.Perm b := by
  rw [List.perm_iff_count]
  intro k
  by_cases hk : k ∈ a
  · rw [List.Nodup.count ha, List.Nodup.count hb, if_pos hk, if_pos ((h k).mp hk)]
  · rw [List.Nodup.count ha, List.Nodup.count hb, if_neg hk, if_neg fun z => hk ((h k).mpr z)]

/-! ### set(xs), xs a list of ints -/
section
variable {P : Program} {w : World} {A : Around} {E : Value → Shared → Prop} {s : Shared}
def set0 (w : World) : Obj := { cls := .type "set", dict := none, data := .set #[] 0 (.fresh 0 0 (!w.params.followText "set-order")) }
theorem set_list_ints {l : Addr} {vals : Array Value} (ns : List Int) {Q : Value → Shared → Prop} (off : A.handled = none) (hl : s.heap.IsList l vals) (ar : IntsAre vals.toList ns) (room : ns.length + 1 < scanBound)
    (fin : ∀ (g : Heap) (tk c : Nat), SetR w g s.heap.objs.size (fun j => decide (j ∈ ns)) c → (∀ b o, s.heap.get? b = some o → g.get? b = some o) → Q (.ref s.heap.objs.size) { s with heap := g, toks := tk }) :
    wpAny (model P w) A (call (.type "set") [.ref l]) Q E s := by
  have nlen : vals.size = ns.length := by have q := IntsAre.length ar; rwa [Array.length_toList] at q
  obtain ⟨c, tl, hmro⟩ := F.called_set.mro
  have hmade := F.called_set.made
  have hsub := F.called_set.sub
  refine wpAny_call (codeAny_of_tree (show wpAny _ _ (callAny (.type "set") _) _ _ _ from wpAny_pure ⟨Code.quiet_builtin _ (by decide +kernel), codeAny_builtin F.entry_type_call ?_⟩))
  rw [Around.under_plain (weight_type_call_type "set" [.ref l] []) rfl]
  have h1 := F.called_set.notType
  have h2 := F.called_set.canCreate
  have hct := F.typeCall_set_1 (.ref l)
  repeat (any_goals (first | assumption | wp_step))
  refine codeAny_mono (code_set_led1 (.ref l) (E := E) (Q₁ := fun o t => o = .ref s.heap.objs.size ∧ t = { s with heap := s.heap.push (set0 w) }) ⟨rfl, rfl⟩) fun r t hr => ?_
  rcases r with e | fl
  · exact hr
  rcases fl with obj | _ | _ | _ <;> first | exact hr.elim | skip
  obtain ⟨rfl, rfl⟩ := hr
  have at0 : (s.heap.push (set0 w)).get? s.heap.objs.size = some (set0 w) := Heap.get?_push_size _ rfl
  have hT : Shared.TypeIs { s with heap := s.heap.push (set0 w) } (.ref s.heap.objs.size) "set" := ⟨_, at0, rfl⟩
  have hli := F.called_set.init.lookup
  have hbi := F.called_set.init.bind (.ref s.heap.objs.size)
  repeat (any_goals (first | assumption | wp_step))
  refine codeAny_mono (codeAny_call_builtin (R := wants (fun r t => r = .none ∧ ∃ g tk c, t = { s with heap := g, toks := tk } ∧ SetR w g s.heap.objs.size (fun j => decide (j ∈ ns)) c ∧ (∀ b o, s.heap.get? b = some o → g.get? b = some o)) E) F.called_set.init.plain F.entry_set_init (check_set_init_1 hT ?_)) fun r2 t2 hr2 => ?_
  · obtain ⟨ol, hol, hcl, nl, hdl⟩ := hl
    obtain ⟨ocls, odict, odata, oslots⟩ := ol
    simp only at hcl hdl
    subst hcl; subst hdl
    have hol' : (s.heap.push (set0 w)).get? l = some { cls := .type "list", dict := odict, data := .seq vals nl, slots := oslots } := Heap.get?_push_of_some _ hol
    have hsls := F.sub_list_set
    have hslf := F.sub_list_frozenset
    have hne : (Value.type "list" == Value.type "dict") = false := by decide
    have hl1 : (s.heap.push (set0 w)).IsList l vals := ⟨_, hol', rfl, nl, rfl⟩
    unfold Builtin.«set.__init__» noKeywords Builtin.Frozenset.updateFrom
    generalize hPI : pyIter = PI
    wp_walk
    subst hPI
    refine wpAny_pyIter_list hl1 (wpAny_bind (wpAny_runValue ?_))
    have lLt : l < s.heap.objs.size := Heap.lt_size hol
    have off3 : A.in1.in1.in1.handled = none := by simp [off]
    have hneI : l ≠ (s.heap.push (set0 w)).objs.size := by rw [Heap.size_push]; exact Nat.ne_of_lt (Nat.lt_succ_of_lt lLt)
    have hSf : s.heap.objs.size ∉ [(s.heap.push (set0 w)).objs.size, l] := by
      rw [Heap.size_push]
      simp only [List.mem_cons, List.not_mem_nil, or_false, not_or]
      exact ⟨Nat.ne_of_lt (Nat.lt_succ_self _), Nat.ne_of_gt lLt⟩
    have hval : ∀ (i : Nat) (v : Value), vals[i]? = some v → ∃ k t, ns[i]? = some k ∧ v = .int k t := fun i v hv => by
      have hi : i < ns.length := by rw [← nlen]; exact (Array.getElem?_eq_some_iff.mp hv).1
      obtain ⟨t, e⟩ := PyProof.Rows.IntsAre.int_at ar i v (by rw [Array.getElem?_toList]; exact hv)
      refine ⟨ns[i], t, List.getElem?_eq_getElem hi, ?_⟩
      rw [e, List.getD_eq_getElem?_getD, List.getElem?_eq_getElem hi] <;> rfl
    refine set_update_ints ((Walks.list off3 _ l hneI vals).toS) s.heap.objs.size hSf ns nlen room hval (vals.size - 0) 0 _ (by omega) (Nat.zero_le _) ⟨⟨_, Heap.get?_push_size _ rfl, rfl, rfl⟩, (hl1.push _)⟩ ?_ ?_
    · exact ⟨0, Nat.le_refl 0, setR_new_at (Heap.get?_push_of_some _ at0)⟩
    · intro t c hm _ R
      obtain ⟨g, gg, d, tk, os⟩ := t
      have eg : gg = s.gens := hm.gens
      have ed : d = s.drawn := hm.drawn
      have eo : os = s.os := hm.os
      subst eg; subst ed; subst eo
      refine wpAny_pure (show wpAny _ _ (ret Value.none) _ _ _ from wpAny_pure ⟨rfl, g, tk, c, rfl, R, fun b o e => ?_⟩)
      have b0 : b < s.heap.objs.size := Heap.lt_size e
      refine hm.heap b o ?_ (Heap.get?_push_of_some _ (Heap.get?_push_of_some _ e))
      rw [Heap.size_push]
      simp only [List.mem_cons, List.not_mem_nil, or_false, not_or]
      exact ⟨Nat.ne_of_lt b0, Nat.ne_of_lt (Nat.lt_succ_of_lt b0)⟩
  · rcases r2 with e | fl
    · exact hr2
    rcases fl with r | _ | _ | _ <;> first | exact hr2.elim | skip
    obtain ⟨rfl, g, tk, c, rfl, R, k⟩ := hr2
    repeat (any_goals (first | assumption | wp_step))
    exact fin _ _ _ R k
end
end DL

set_option Elab.async false
set_option linter.all false
set_option maxRecDepth 100000
set_option maxHeartbeats 4000000
namespace DL
open PySem PySem.Spec PyProof.Rows L2

theorem SetR.card {w : World} {h : Heap} {a : Addr} {ns : List Int} {c : Nat} (R : SetR w h a (fun j => decide (j ∈ ns)) c) : c = (ddI ns).length := by
  obtain ⟨o, es, ep, t, ho, hex, hd, g, nd, hm, hb, hf, hn, hr, hl⟩ := R
  rw [← nodup_len nd (ddI_nodup ns) fun k => by rw [← hm k, ddI_mem, decide_eq_true_eq], List.length_map, Array.length_toList, hn]
section
variable {X : Cx}
def rSetLI (K : PySem.W.Frag) (w : World) : List V → Hp → VK → Prop := fun xs H Q => ∃ (a : Addr) (ns : List Int), xs = [V.ref a] ∧ H a = some (.lst (ns.map V.int)) ∧ ns.length ≤ 1000 ∧ ∀ p, H p = none → Q (.ref p) (upd H p (SetO w p (fun j => decide (j ∈ ns)) (ddI ns).length))
theorem cr_setLI (hc : X.calm = true) : CallR X (.type "set") (rSetLI X.K X.w) := by
  intro pins s σ H xs us Q I r h
  obtain ⟨a, ns, rfl, ha, hz, q⟩ := h
  rw [Vals.ref1 r]
  obtain ⟨its, rv, pl, _⟩ := I.list (show SqL X.K H a (ns.map V.int) from .inl (.inl ha))
  refine set_list_ints ns (I.ok.hd hc) pl.isList (by simpa using ints_of_vals rv) (by unfold scanBound; omega) fun g tk c R k => ?_
  rw [SetR.card R] at R
  exact ⟨.ref s.heap.objs.size, upd H s.heap.objs.size (SetO X.w s.heap.objs.size (fun j => decide (j ∈ ns)) (ddI ns).length), I.laid (t' := tk) k (Nat.le_refl _) (setO_new R), rfl, q _ (I.hok.fresh (Nat.le_refl _))⟩
def rLenSet (w : World) : List V → Hp → VK → Prop := fun xs H Q => ∃ (a : Addr) (S : Int → Bool) (n : Nat), xs = [V.ref a] ∧ H a = some (SetO w a S n) ∧ Q (.int n) H
theorem cr_lenSet : CallR X (.builtin "len") (rLenSet X.w) := by
  intro pins s σ H xs us Q I r h
  obtain ⟨a, S, n, rfl, ha, q⟩ := h
  rw [Vals.ref1 r]
  obtain ⟨o, es, ep, t, ho, hex, hd, g, nd, hm, hb, hf, hn, hr, hl⟩ := setO_get I ha
  refine call_len_set ho hex hd hf (by unfold scanBound at hb; omega) ⟨.int n, H, I.tok _, ?_, q⟩
  rw [hn]
  exact ⟨_, rfl⟩
end
section
variable {X : Cx} {cm : Nat → Value} {E : L2.St → XK} {n : Nat} {e : Expr} {m : Mr} {pos p p1 p2 : Pos}
def onIs (m : Mr) (f : List Int → Res Dt) : Mr := fun Γ => (m Γ).bind fun d => match d with
  | .lst ds => match ints? ds with
    | some ns => guardR (decide (ns.length ≤ 1000)) (f ns)
    | none => .bad
  | _ => .bad
theorem set_ok {f : List Int → Res Dt} {σ : L2.St} {H G : Hp} {Γ : Ev} {Q Q' : VK} (s : Same G H) (ev : EvR X.K G Γ σ) (po : Post X.K cm (E σ) n H G (onIs m f Γ) Q)
    (k : ∀ (ns : List Int) (p : Addr) (H1 G1 : Hp), H1 p = none → Same G1 (upd H1 p (SetO X.w p (fun j => decide (j ∈ ns)) (ddI ns).length)) → Post X.K cm (E σ) n (upd H1 p (SetO X.w p (fun j => decide (j ∈ ns)) (ddI ns).length)) G1 (f ns) Q → Q' (.ref p) (upd H1 p (SetO X.w p (fun j => decide (j ∈ ns)) (ddI ns).length))) :
    tCB (rSetLI X.K X.w) (tDs X.K cm E 0 (mCons m mNil)) σ H Q' := by
  refine ⟨G, Γ, s, ev, ?_⟩
  unfold mCons mNil
  unfold onIs at po
  cases hx : m Γ with
  | bad => rw [hx] at po; exact po.elim
  | exc c => rw [hx] at po; exact po
  | ok d =>
    rw [hx, Res.bind_ok] at po
    rw [Res.bind_ok, Res.bind_ok]
    intro vs H1 G1 L st _ _ ow
    obtain ⟨_, ow⟩ := Ows.zero_of ow
    have po1 := po.step st
    obtain ⟨v, rfl, rp⟩ := rps1 ow
    cases d with
    | lst ds =>
      cases hi : ints? ds with
      | none => simp only [hi] at po1; exact (show False from po1).elim
      | some ns =>
        simp only [hi] at po1
        rw [ints?_some hi] at rp
        obtain ⟨a, us, rfl, ga, q⟩ := rp
        rw [q.ints] at ga
        cases hz : decide (ns.length ≤ 1000) with
        | false => rw [hz] at po1; exact (show False from po1).elim
        | true =>
          rw [hz] at po1
          refine ⟨a, ns, rfl, st.s _ _ ga, of_decide_eq_true hz, fun p np => ?_⟩
          have s2 := Stp.newH st.s np (SetO X.w p (fun j => decide (j ∈ ns)) (ddI ns).length)
          exact k ns p H1 G1 np s2.s (Post.step (show Post X.K cm (E σ) n H1 G1 (f ns) Q from po1) s2)
    | _ => exact (show False from po1).elim
def cLenS (ns : List Int) : Res Dt := .ok (.int (ddI ns).length)
def cSortS (ns : List Int) : Res Dt := guardR (decide ((ddI ns).length < 64)) (.ok (.lst ((sortI (ddI ns)).map Dt.int)))
/-- len(set(xs)) -/
theorem de_lenSet (hc : X.calm = true) (hm : X.mg "len" = none) (hm2 : X.mg "set" = none) (ha : DE X cm E 0 e m) (hg : Gl X "len" := by rfl) (hg2 : Gl X "set" := by rfl)
    (he : starEach [.Call (.Name "set" p1) [e] [] p2] X.env = (false, eval (.Call (.Name "set" p1) [e] [] p2) X.env) :: starEach [] X.env := by rfl) (hpl : (backTo pos (starEach [] X.env)).any (·.1) = false := by rfl)
    (he2 : starEach [e] X.env = (false, eval e X.env) :: starEach [] X.env := by rfl) (hpl2 : (backTo p2 (starEach [] X.env)).any (·.1) = false := by rfl) :
    DE X cm E n (.Call (.Name "len" p) [.Call (.Name "set" p1) [e] [] p2] [] pos) (onIs m cLenS) :=
  PE.of (pe_callB cr_lenSet hg hm PySem.boot_len (pa_cons (pe_callTy (cr_setLI hc) hg2 hm2 PyProof.Rows.boot_set (da_cons ha da_nil he2) (by decide) (by decide) he2 hpl2) pa_nil he) (by decide) (by decide) he hpl) fun σ H Q ⟨G, Γ, s, ev, po⟩ =>
    set_ok s ev po fun ns p H1 G1 np s2 po1 => ⟨p, _, _, rfl, upd_same, po1.scal s2 rfl rfl⟩
/-- sorted(set(xs)) -/
theorem de_sortedSet (hn : n ≤ 1) (hc : X.calm = true) (hm : X.mg "sorted" = none) (hm2 : X.mg "set" = none) (ha : DE X cm E 0 e m) (hg : Gl X "sorted" := by rfl) (hg2 : Gl X "set" := by rfl)
    (he : starEach [.Call (.Name "set" p1) [e] [] p2] X.env = (false, eval (.Call (.Name "set" p1) [e] [] p2) X.env) :: starEach [] X.env := by rfl) (hpl : (backTo pos (starEach [] X.env)).any (·.1) = false := by rfl)
    (he2 : starEach [e] X.env = (false, eval e X.env) :: starEach [] X.env := by rfl) (hpl2 : (backTo p2 (starEach [] X.env)).any (·.1) = false := by rfl) :
    DE X cm E n (.Call (.Name "sorted" p) [.Call (.Name "set" p1) [e] [] p2] [] pos) (onIs m cSortS) :=
  PE.of (pe_callB (cr_sortedSet hc) hg hm boot_sorted (pa_cons (pe_callTy (cr_setLI hc) hg2 hm2 PyProof.Rows.boot_set (da_cons ha da_nil he2) (by decide) (by decide) he2 hpl2) pa_nil he) (by decide) (by decide) he hpl) fun σ H Q ⟨G, Γ, s, ev, po⟩ =>
    set_ok s ev po fun ns p H1 G1 np s2 po1 => by
      unfold cSortS at po1
      cases hz : decide ((ddI ns).length < 64) with
      | false => rw [hz] at po1; exact (show False from po1).elim
      | true =>
        rw [hz] at po1
        refine ⟨p, _, _, rfl, upd_same, of_decide_eq_true hz, fun out q pw mem len nq => ?_⟩
        have e : out = sortI (ddI ns) := sortI_eq (nodup_perm (pw.imp fun {a b} z => Int.ne_of_lt z) (ddI_nodup ns) fun k => by rw [mem k, ddI_mem, decide_eq_true_eq]) (pw.imp fun {a b} z => Int.le_of_lt z)
        rw [e]
        exact Post.list (show Post X.K cm (E σ) n _ G1 (.ok (.lst ((sortI (ddI ns)).map Dt.int))) Q from po1) hn s2 nq Rps.of_ints
end
end DL

set_option Elab.async false
set_option linter.all false
set_option maxRecDepth 100000
set_option maxHeartbeats 4000000
namespace L2
open PySem PySem.Spec PyProof.Rows
/-- a suite's ends, where the clause's name goes -/
def unD (i : Nat) (D : Ends) : Ends := { nx := fun σ H => D.nx (σ.set i none) H, rt := D.rt, bk := fun σ H => D.bk (σ.set i none) H, ct := fun σ H => D.ct (σ.set i none) H }
/-- several clauses 'except x as n', one name -/
def wAsM (K : PySem.W.Frag) (i : Nat) (W0 : WX) (D : Ends) : List (Value × (Addr → Value → Option Addr → TS)) → WX
  | [] => W0
  | (c, t) :: r => fun cls d σ H => ∃ b, PySem.W.exmOne K cls c = some b ∧ (b = true → ∀ a, H a = none → t a cls d (unD i D) (σ.set i (some (.ref a))) H) ∧ (b = false → wAsM K i W0 D r cls d σ H)
inductive HdsA (X : Cx) (n : Str) : List ExceptHandler → List (Value × (Addr → Value → Option Addr → TS)) → Prop
  | nil : HdsA X n [] []
  | cons {x : Str} {c : Value} {t : Addr → Value → Option Addr → TS} {st : Stmt} {sts : List Stmt} {p1 p2 : Pos} {hds : List ExceptHandler} {l : List (Value × (Addr → Value → Option Addr → TS))} (hc : Names X x c)
      (hsu : ∀ (a : Addr) (oe : Obj) (cls : Value) (d : Option Addr) (pn : List (Addr × Obj)), Zc cls d oe → (∃ vs, oe.data = .fields vs) → PSs (X.suite a ((a, oe) :: pn)) (st :: sts) (t a cls d)) (r : HdsA X n hds l) :
      HdsA X n (.ExceptHandler (some (.Name x p1)) (some n) (st :: sts) p2 :: hds) ((c, t) :: l)
section
variable {X : Cx} {n : Str} {i : Nat} {body : List Stmt} {h0 : ExceptHandler} {hds : List ExceptHandler} {l : List (Value × (Addr → Value → Option Addr → TS))} {pos : Pos} {tb : WX → TS} {W0 : WX}
theorem ps_try_asM (hs : X.stack = X.env :: X.outer) (hf : X.env.frame = some X.env.locals) (hN : X.N.Nodup) (hi : X.N[i]? = some n) (hln : X.env.kindOf n = some .local) (tk : Takes X W0)
    (hb : ∀ (W : WX) (pn : List (Addr × Obj)) (xe : Value → Shared → Prop), Takes (X.tr pn xe) W → PassesOwn (model X.prog X.w) X.A X.env xe → PSs (X.tr pn xe) body (tb W))
    (hh : HdsA X n (h0 :: hds) l) : PS X (.Try body (h0 :: hds) [] [] pos) (fun D σ H => tb (wAsM X.K i W0 D l) D σ H) := by
  refine ⟨fun pins s σ H D I h => ?_⟩
  have ok := I.ok
  have hfr : X.A.frames = some (X.env :: X.outer) := by rw [ok.frames, hs]
  have hloc : Loc X.env.scope n := .inl hln
  refine wpAny_Try_except (wpAny_mono ((hb (wAsM X.K i W0 D l) (X.pn ++ pins) (fun e s₁ => wpAny (model X.prog X.w) X.A (noteFrame e X.env) (fun _ s₂ => wpAny (model X.prog X.w) X.A (setFlight e none) (fun _ s₃ => wpAny (model X.prog X.w) X.A (handleBy e X.env (h0 :: hds)) (SP X pins D) X.xe s₃) X.xe s₂) X.xe s₁) (fun u s' xx => ?_) PassesOwn.looking).run [] s σ H D (I.toTry _) h) (fun f s1 hsp => ?_) (fun e s1 he => he))
  · obtain ⟨a, B, sI, pins', σ', H', cls, d, rfl, J', nb, up, sky, na, os, ag, w⟩ := xx
    have J : Inv X pins σ' H' sI := J'.ofTry ok
    have sky' : Sky B (X.env :: X.outer) a (Zc cls d) X.env.locals s'.heap := by rw [← hs]; exact sky
    show wpAny (model X.prog X.w) X.A (noteFrame (.ref a) X.env) _ _ _
    refine Sky.land Zc.steady hfr hf sky' fun h3 fl3 up3 => ?_
    have J3 : Inv X pins σ' H' { s' with heap := h3 } := J.landed nb fl3.1 (up.trans up3) os ag
    obtain ⟨oe3, vs3, he3, hz3, hd3⟩ := fl3.there
    have nfr : a ∉ frs (X.env :: X.outer) := fun hm => by
      obtain ⟨_, o', e', hnf⟩ := fl3.2.2.1.mem hm
      rw [he3] at e'; cases e'
      exact hnf _ hd3
    have nL : a ≠ X.env.locals := fun z => nfr (List.mem_filterMap.mpr ⟨X.env, List.mem_cons_self, by rw [hf, z]⟩)
    have nF : a ∉ X.fs := fun hm => by
      obtain ⟨e, he, q⟩ := List.mem_filterMap.mp hm
      exact nfr (List.mem_filterMap.mpr ⟨e, List.mem_cons_of_mem _ he, q⟩)
    have S3 := J3.suite he3 hd3 na nL nF
    have go : ∀ {hds' : List ExceptHandler} {l' : List (Value × (Addr → Value → Option Addr → TS))}, HdsA X n hds' l' → wAsM X.K i W0 D l' cls d σ' H' → wpAny (model X.prog X.w) X.A (handleBy (.ref a) X.env hds') (SP X pins D) X.xe { s' with heap := h3 } := by
      intro hds' l' hk
      induction hk with
      | nil =>
        intro w
        obtain ⟨k1, k2, k3, oe, vs, T, oT, ts', he, hz, hd, h1, hr⟩ := id fl3
        refine wpAny_handleBy_nil ?_
        unfold PySem.passOn
        refine wpAny_bind (wpAny_field he hd h1 ?_)
        rw [if_neg (show ¬ ((Value.ref T == Value.none) = true) from by simp)]
        have fin : wpAny (model X.prog X.w) X.A (setFlight (.ref a) X.env.frame) (fun _ s4 => wpAny (model X.prog X.w) X.A (throw (.ref a) : Sem Flow) (SP X pins D) X.xe s4) X.xe { s' with heap := h3 } := by
          rw [hf]
          exact HandSPX.setFlight_upZ fl3 fun h4 hh4 up4 => wpAny_throw (tk _ _ ⟨a, B, sI, pins, σ', H', cls, d, rfl, J, nb, (up.trans up3).trans up4, .inr (.inr (by rw [hs]; exact hh4)), na, os, ag, w⟩)
        first
          | exact wpAny_bind (wpAny_pure (wpAny_bind fin))
          | exact wpAny_bind fin
      | @cons x c t st sts p1 p2 hds2 l2 hc hsu r ih =>
        intro w
        obtain ⟨b, hb1, hyes, hno⟩ := w
        refine wpAny_handleBy_cons (codeAny_handlers_test ?_) (by intro q; cases q)
        have LT : PySem.W.Looks (model X.prog X.w) h3 (typeOf (.ref a)) cls := fun A Q E s k q => wpAny_typeOf_ref (k _ _ he3) (by rw [hz3.1]; exact q)
        have LM := PySem.W.exm_one (M := model X.prog X.w) (J3.kIn) LT hb1
        have test : ∀ {Q : Value → Shared → Prop} {E : Value → Shared → Prop}, Q c { s' with heap := h3 } → wpAny (model X.prog X.w) (X.A.mark (some (.ref a))) (eval (.Name x p1) X.env) Q E { s' with heap := h3 } := fun {Q E} q => by
          obtain ⟨hg, hdbg, hm | ⟨hm, hv, hnn⟩⟩ := hc
          · exact ld_glob (X := X.suite a ((a, oe3) :: (X.pn ++ pins))) S3 hg hm q hdbg
          · exact ld_blt (X := X.suite a ((a, oe3) :: (X.pn ++ pins))) S3 hg hm hv q hnn hdbg
        refine test (LM.here ?_)
        cases b with
        | true =>
          refine codeAny_handlers_suite_as (HandSPX.lands_againZ fl3 fun h4 fl4 up4 => ?_)
          have J4 : Inv X pins σ' H' { s' with heap := h4 } := J.landed nb fl4.1 ((up.trans up3).trans up4) os ag
          obtain ⟨oe4, vs4, he4, hz4, hd4⟩ := fl4.there
          have S4 := J4.suite he4 hd4 na nL nF
          refine store_ok (X := X.suite a ((a, oe4) :: (X.pn ++ pins))) (v := .ref a) S4 hN hi hloc rfl (fun s5 S5 => wpAny_mono ((hsu a oe4 cls d (X.pn ++ pins) hz4 ⟨_, hd4⟩).run [] s5 _ H' _ S5 (hyes rfl a na)) (fun f s6 hsp => ?_) (fun _ _ z => False.elim z)) (.inr hln)
          have off : ∀ {σ6 : St} {H6 : Hp} {Q : Shared → Prop}, Inv (X.suite a ((a, oe4) :: (X.pn ++ pins))) [] σ6 H6 s6 → (∀ s7, Inv X pins (σ6.set i none) H6 s7 → Q s7) → wpAny (model X.prog X.w) X.A (do bindName X.env n .none; unbindBehindTheSuite X.env n p2) (fun _ s7 => Q s7) X.xe s6 := fun {σ6 H6 Q} S6 hq => gone_ok (S6.unsuite ok) hN hi hln hq
          cases f with
          | next =>
            obtain ⟨σ6, H6, S6, q6⟩ := hsp
            exact off S6 fun s7 J7 => ⟨_, _, J7, q6⟩
          | brk =>
            obtain ⟨σ6, H6, S6, q6⟩ := hsp
            exact off S6 fun s7 J7 => ⟨_, _, J7, q6⟩
          | cont =>
            obtain ⟨σ6, H6, S6, q6⟩ := hsp
            exact off S6 fun s7 J7 => ⟨_, _, J7, q6⟩
          | ret u =>
            obtain ⟨v6, σ6, H6, S6, r6, q6⟩ := hsp
            exact off S6 fun s7 J7 => ⟨_, _, _, J7, r6, q6⟩
        | false => exact ih (hno rfl)
    exact go hh w
  · cases f with
    | next =>
      obtain ⟨σ', H', J', q⟩ := hsp
      exact wpAny_execs_nil ⟨σ', H', J'.ofTry ok, q⟩
    | brk =>
      obtain ⟨σ', H', J', q⟩ := hsp
      exact ⟨σ', H', J'.ofTry ok, q⟩
    | cont =>
      obtain ⟨σ', H', J', q⟩ := hsp
      exact ⟨σ', H', J'.ofTry ok, q⟩
    | ret u =>
      obtain ⟨v, σ', H', J', r, q⟩ := hsp
      exact ⟨v, σ', H', J'.ofTry ok, r, q⟩
end
end L2

set_option Elab.async false
set_option linter.all false
set_option maxRecDepth 100000
set_option maxHeartbeats 4000000
namespace DL
open PySem PySem.Spec PyProof.Rows L2

/-! ### a state told from the current heap -/
section
variable {K : PySem.W.Frag} {cm : Nat → Value} {W W' : WX} {nr : Nat} {H0 G0 H H' : Hp} {O O' : List Nat} {Ls : Nat → List Addr} {S : List Addr} {Γ : Ev} {σ : L2.St} {D : Ends}
/-- the current heap without what is owned -/
def Hb (S : List Addr) (H : Hp) : Hp := fun a => if a ∈ S then none else H a
theorem Hb.inv {a : Addr} {o : HO} (e : Hb S H a = some o) : a ∉ S ∧ H a = some o := by
  unfold Hb at e
  split at e
  · cases e
  · exact ⟨by assumption, e⟩
theorem Hb.of {a : Addr} {o : HO} (h : a ∉ S) (e : H a = some o) : Hb S H a = some o := by unfold Hb; rw [if_neg h]; exact e
theorem Vw.hb (I : SIw K H0 G0 O Ls S Γ σ H) : Same (Vw H0 G0 S H) (Hb S H) := fun a o e => let ⟨h1, _, h3⟩ := Vw.inv e; Hb.of h1 h3
theorem SIw.here (I : SIw K H0 G0 O Ls S Γ σ H) : SIw K (Hb S H) (Vw H0 G0 S H) O Ls S Γ σ H := by
  refine ⟨fun a o e => (Hb.inv e).2, Vw.same, fun a ha => ⟨?_, ?_, (I.own a ha).2.2⟩, I.sub, I.nd, I.dj, fun i d e => ?_, I.len⟩
  · unfold Hb; rw [if_pos ha]
  · cases q : Vw H0 G0 S H a with
    | none => rfl
    | some u => exact absurd ha (Vw.inv q).1
  · obtain ⟨v, h1, h2⟩ := I.rep i d e
    refine ⟨v, h1, h2.mono (Same.refl _) fun a o q => Vw.of (Vw.inv q).1 (.inl ⟨o, q⟩) (Vw.inv q).2.2⟩
theorem h0_hb (I : SIw K H0 G0 O Ls S Γ σ H) : Same H0 (Hb S H) := fun a o e => Hb.of (fun q => by have := (I.own a q).1; rw [e] at this; cases this) (I.h0 _ _ e)
theorem new_hb (I : SIw K H0 G0 O Ls S Γ σ H) {a : Addr} (h : Hb S H a = none) : H0 a = none := none_back (h0_hb I) h
theorem SI.back (I : SIw K H0 G0 O Ls S Γ σ H) {Γ' : Ev} {σ' : L2.St} (J : SI K (Hb S H) (Vw H0 G0 S H) O' Γ' σ' H') : SI K H0 G0 O' Γ' σ' H' := by
  obtain ⟨Ls', S', J⟩ := J
  refine ⟨Ls', S', (h0_hb I).trans J.h0, I.g0v.trans J.g0, fun a ha => ⟨new_hb I (J.own a ha).1, none_back I.g0v (J.own a ha).2.1, (J.own a ha).2.2⟩, J.sub, J.nd, J.dj, fun i d e => ?_, J.len⟩
  obtain ⟨v, h1, h2⟩ := J.rep i d e
  refine ⟨v, h1, h2.mono (Same.refl _) fun a o q => ?_⟩
  obtain ⟨q1, q2, q3⟩ := Vw.inv q
  refine Vw.of q1 ?_ q3
  rcases q2 with ⟨u, q2⟩ | q2
  · exact (Vw.inv q2).2.1
  · exact .inr (new_hb I q2)
theorem RetOk.back (I : SIw K H0 G0 O Ls S Γ σ H) {d : Dt} {v : V} (r : RetOk K nr (Hb S H) (Vw H0 G0 S H) d v H') : RetOk K nr H0 G0 d v H' := by
  obtain ⟨G', L, st, nd, fr, ow⟩ := r
  refine ⟨G', L, ⟨(h0_hb I).trans st.h, I.g0v.trans st.g, st.s, fun a o q => ?_⟩, nd, fun a ha => ⟨new_hb I (fr a ha).1, (fr a ha).2⟩, ow⟩
  rcases st.new a o q with ⟨u, w⟩ | w
  · exact (Vw.inv w).2.1
  · exact .inr (new_hb I w)
end

/-! ### what a clause answers -/
/-- a value told in a clause, where the name i holds the exception a -/
def hD (K : PySem.W.Frag) (cm : Nat → Value) (n i : Nat) (a : Addr) (d : Dt) : TE := fun σ H Q => ∃ G, Same G H ∧ σ[i]? = some (some (.ref a)) ∧ Post K cm E0 n H G (.ok d) Q
section
variable {X : Cx} {cm : Nat → Value} {a C D : Addr} {i n k : Nat} {oe : Obj} {pn : List (Addr × Obj)} {b1 b2 b : Bool} {x e : Str} {ex ey : Expr} {pos p p2 p3 : Pos}
theorem hd_isi (hC : ExcC X.K D) (hz : Zc (.ref D) none oe) (hf : ∃ vs, oe.data = .fields vs) (hm : X.mg "isinstance" = none) (hv : PE (X.suite a ((a, oe) :: pn)) (.Name e p2) (tVar i)) (hmc : X.mg x = some (.ref C)) (hk : PySem.W.kitOne X.K (.ref D) (.ref C) = some b)
    (hg : Gl X "isinstance" := by rfl) (hgx : Gl X x := by rfl) (hd : (x == ("__debug__" : Str)) = false := by decide)
    (he : starEach [.Name e p2, .Name x p3] X.env = (false, eval (.Name e p2) X.env) :: starEach [.Name x p3] X.env := by rfl) (he2 : starEach [.Name x p3] X.env = (false, eval (.Name x p3) X.env) :: starEach [] X.env := by rfl) (hpl : (backTo pos (starEach [.Name x p3] X.env)).any (·.1) = false := by rfl) :
    PE (X.suite a ((a, oe) :: pn)) (.Call (.Name "isinstance" p) [.Name e p2, .Name x p3] [] pos) (hD X.K cm n i a (.bl b)) :=
  PE.of (pe_callB (X := X.suite a ((a, oe) :: pn)) (call_isE hC hz hf) hg hm boot_isinstance (pa_cons hv (pa_cons (pe_glob (v := .ref C) hgx hmc rfl hd) pa_nil he2) he) (by decide) (by decide) he hpl) fun σ H Q ⟨G, s, hs, po⟩ =>
    ⟨.ref a, hs, .ref C, .ref C, b, rfl, fun u r => (show u = Value.ref C from r), hk, po.scal s rfl rfl⟩
theorem hd_isiT {T : String} (hC : ExcC X.K D) (hz : Zc (.ref D) none oe) (hf : ∃ vs, oe.data = .fields vs) (hm : X.mg "isinstance" = none) (hv : PE (X.suite a ((a, oe) :: pn)) (.Name e p2) (tVar i)) (hmc : X.mg x = none) (hb : bootBuiltins x = some (.type T)) (hk : PySem.W.kitOne X.K (.ref D) (.type T) = some b)
    (hg : Gl X "isinstance" := by rfl) (hgx : Gl X x := by rfl) (hn : x ≠ "__name__" := by decide) (hd : (x == ("__debug__" : Str)) = false := by decide)
    (he : starEach [.Name e p2, .Name x p3] X.env = (false, eval (.Name e p2) X.env) :: starEach [.Name x p3] X.env := by rfl) (he2 : starEach [.Name x p3] X.env = (false, eval (.Name x p3) X.env) :: starEach [] X.env := by rfl) (hpl : (backTo pos (starEach [.Name x p3] X.env)).any (·.1) = false := by rfl) :
    PE (X.suite a ((a, oe) :: pn)) (.Call (.Name "isinstance" p) [.Name e p2, .Name x p3] [] pos) (hD X.K cm n i a (.bl b)) :=
  PE.of (pe_callB (X := X.suite a ((a, oe) :: pn)) (call_isE hC hz hf) hg hm boot_isinstance (pa_cons hv (pa_cons (pe_bltn (v := .ty T) hgx hmc hb rfl hn hd) pa_nil he2) he) (by decide) (by decide) he hpl) fun σ H Q ⟨G, s, hs, po⟩ =>
    ⟨.ref a, hs, .ty T, .type T, b, rfl, fun u r => (show u = Value.type T from r), hk, po.scal s rfl rfl⟩
theorem hd_and {X : Cx} (h1 : PE X ex (hD X.K cm 0 i a (.bl true))) (h2 : PE X ey (hD X.K cm n i a (.bl b2))) : PE X (.BoolOp .And [ex, ey] pos) (hD X.K cm n i a (.bl b2)) :=
  PE.of (pe_and h1 (pe_one h2)) fun σ H Q ⟨G, s, hs, po⟩ => ⟨G, s, hs, fun v H1 G1 L st nd fr ow => by
    rw [Ow.zero] at ow
    refine ⟨true, ow.2, ?_⟩
    exact ⟨G1, st.s, hs, po.step st⟩⟩
/-- .. returned by itself, in a list, behind a number in a tuple -/
theorem hd_lst {X : Cx} (h : PE X ex (hD X.K cm 0 i a (.bl b))) (he : starEach [ex] X.env = (false, eval ex X.env) :: starEach [] X.env := by rfl) : PE X (.List [ex] pos) (hD X.K cm (n + 1) i a (.lst [.bl b])) :=
  PE.of (pe_lst (pa_cons h pa_nil he)) fun σ H Q ⟨G, s, hs, po⟩ => ⟨G, s, hs, fun v H1 G1 L st nd fr ow => by
    rw [Ow.zero] at ow
    refine ⟨?_, fun p np => po.lay (L := []) st List.nodup_nil (fun a ha => by cases ha) ⟨v, [], [], [], rfl, rfl, rp_ow rfl ow.2, rfl, rfl⟩ np⟩
    rw [sizeLine_eq]; exact Nat.le_of_ble_eq_true rfl⟩
theorem hd_tup {X : Cx} {z : Int} {j x1 : Nat} (h : PE X ex (hD X.K cm 0 i a (.bl b))) (he : starEach [.Constant (.int z) j p, ex] X.env = (false, eval (.Constant (.int z) j p) X.env) :: starEach [ex] X.env := by rfl) (he2 : starEach [ex] X.env = (false, eval ex X.env) :: starEach [] X.env := by rfl) : PE X (.Tuple [.Constant (.int z) j p, ex] x1 pos) (hD X.K cm (n + 1) i a (.tup [.int z, .bl b])) :=
  PE.of (pe_tup (pa_cons pe_int (pa_cons h pa_nil he2) he)) fun σ H Q ⟨G, s, hs, po⟩ => ⟨G, s, hs, fun v H1 G1 L st nd fr ow => by
    rw [Ow.zero] at ow
    refine ⟨?_, fun p np => po.layT (L := []) st List.nodup_nil (fun a ha => by cases ha) ⟨.int z, [v], [], [], rfl, rfl, rp_ow (G := G1) rfl rfl, v, [], [], [], rfl, rfl, rp_ow rfl ow.2, rfl, rfl⟩ np⟩
    rw [sizeLine_eq]; exact Nat.le_of_ble_eq_true rfl⟩

/-- a clause's suite: it catches the classes cs and returns d -/
def hS (K : PySem.W.Frag) (cm : Nat → Value) (nr i : Nat) (cs : List Nat) (d : Dt) : Addr → Value → Option Addr → TS := fun a cls od D σ H => ∃ (c : Nat) (σ0 : L2.St), c ∈ cs ∧ cls = cm c ∧ od = none ∧ σ = σ0.set i (some (.ref a)) ∧ ∃ H0 G0, Same H0 H ∧ Same G0 H0 ∧ ∀ v H', RetOk K nr H0 G0 d v H' → D.rt v H'
theorem hs_ret {n : Str} {nr : Nat} {cs : List Nat} {d : Dt} (hi : X.N[i]? = some n) {er : Expr} (hC : ∀ c ∈ cs, ∃ D, cm c = .ref D ∧ ∀ a oe pn, Zc (.ref D) none oe → (∃ vs, oe.data = .fields vs) → PE (X.suite a ((a, oe) :: pn)) er (hD X.K cm nr i a d)) :
    ∀ (a : Addr) (oe : Obj) (cls : Value) (od : Option Addr) (pn : List (Addr × Obj)), Zc cls od oe → (∃ vs, oe.data = .fields vs) → PSs (X.suite a ((a, oe) :: pn)) [.Return (some er) pos] (hS X.K cm nr i cs d a cls od) := by
  intro a oe cls od pn hz hf
  refine ⟨fun pins s σ H D I ⟨c, σ0, hc, e1, e2, e3, H0, G0, s0, g0, q⟩ => ?_⟩
  subst e2
  obtain ⟨Dc, eD, h⟩ := hC c hc
  rw [e1, eD] at hz
  have hlt : i < σ0.length := by
    have h1 := I.len
    rw [e3, List.length_set] at h1
    have h2 := (List.getElem?_eq_some_iff.mp hi).1
    have h3 : (X.suite a ((a, oe) :: pn)).N.length = X.N.length := rfl
    omega
  refine (pss_one (ps_ret (h a oe pn hz hf))).run pins s σ H D I ⟨G0, g0.trans s0, by rw [e3, List.getElem?_set_self hlt], fun v H' G' L st nd fr ow => q v H' ⟨G', L, ⟨s0.trans st.h, st.g, st.s, fun p o z => ?_⟩, nd, fun p hp => ⟨none_back s0 (fr p hp).1, (fr p hp).2⟩, ow⟩⟩
  rcases st.new p o z with w | w
  · exact .inl w
  · exact .inr (none_back s0 w)
end
/-! ### try: .. except X as e: return .. -/
abbrev Clauses := List (Value × List Nat × Dt)
def hvOf : List (List Nat × Dt) → Nat → Option Dt
  | [], _ => none
  | (cs, d) :: r, c => if decide (c ∈ cs) = true then some d else hvOf r c
def sTry (dom : List Nat) (cl : List (List Nat × Dt)) (mb : Ms) : Ms := fun Γ => match mb Γ with
  | .exc c => if decide (c ∈ dom) = true then (match hvOf cl c with
    | some d => .ret d
    | none => .bad) else .bad
  | r => r
section
variable {X : Cx} {cm : Nat → Value} {W : WX} {nr i : Nat} {O O' : List Nat} {n : Str} {body : List Stmt} {h0 : ExceptHandler} {hds : List ExceptHandler} {pos : Pos} {mb : Ms}
theorem catches {K : PySem.W.Frag} {W0 : WX} {D : Ends} {H0 G0 : Hp} {c : Nat} {d : Dt} {dom : List Nat} (hdom : c ∈ dom) (g0 : Same G0 H0) (po : ∀ v H', RetOk K nr H0 G0 d v H' → D.rt v H') : ∀ (cl : Clauses), (∀ q ∈ cl, ∀ c ∈ dom, PySem.W.exmOne K (cm c) q.1 = some (decide (c ∈ q.2.1))) →
    hvOf (cl.map fun q => (q.2.1, q.2.2)) c = some d → ∀ σ' H', Same H0 H' → wAsM K i W0 D (cl.map fun q => (q.1, hS K cm nr i q.2.1 q.2.2)) (cm c) none σ' H'
  | [], _, h, _, _, _ => by cases h
  | (cv, cs, d') :: cl, hx, h, σ', H', s => by
    refine ⟨decide (c ∈ cs), hx _ List.mem_cons_self c hdom, fun hb a ha => ?_, fun hb => ?_⟩
    · have e : d' = d := by
        have h' : (if decide (c ∈ cs) = true then some d' else hvOf (cl.map fun q => (q.2.1, q.2.2)) c) = some d := h
        rw [if_pos hb] at h'; cases h'; rfl
      subst e
      exact ⟨c, σ', of_decide_eq_true hb, rfl, rfl, rfl, H0, G0, s, g0, po⟩
    · have h' : (if decide (c ∈ cs) = true then some d' else hvOf (cl.map fun q => (q.2.1, q.2.2)) c) = some d := h
      rw [if_neg (by rw [hb]; exact Bool.false_ne_true)] at h'
      exact catches hdom g0 po cl (fun q hq => hx q (List.mem_cons_of_mem _ hq)) h' σ' H' s
theorem ds_try {dom : List Nat} (cl : Clauses) (hs : X.stack = X.env :: X.outer) (hf : X.env.frame = some X.env.locals) (hN : X.N.Nodup) (hi : X.N[i]? = some n) (hln : X.env.kindOf n = some .local) (tk : Takes X W)
    (hb : ∀ (W' : WX) (pn : List (Addr × Obj)) (xe : Value → Shared → Prop), Takes (X.tr pn xe) W' → PassesOwn (model X.prog X.w) X.A X.env xe → DSs (X.tr pn xe) cm W' nr O O' body mb)
    (hh : HdsA X n (h0 :: hds) (cl.map fun q => (q.1, hS X.K cm nr i q.2.1 q.2.2))) (hx : ∀ q ∈ cl, ∀ c ∈ dom, PySem.W.exmOne X.K (cm c) q.1 = some (decide (c ∈ q.2.1))) : DS X cm W nr O O' (.Try body (h0 :: hds) [] [] pos) (sTry dom (cl.map fun q => (q.2.1, q.2.2)) mb) := by
  refine PS.of (ps_try_asM (tb := fun W' => tS X.K cm W' nr O O' mb) hs hf hN hi hln tk hb hh) fun D σ H ⟨H0, G0, Γ, ⟨Ls, S, I⟩, po⟩ => ?_
  refine ⟨Hb S H, Vw H0 G0 S H, Γ, ⟨Ls, S, I.here⟩, ?_⟩
  unfold sTry at po
  cases hq : mb Γ with
  | nx Γ' => rw [hq] at po; exact fun σ' H' J => po σ' H' (SI.back I J)
  | ret d => rw [hq] at po; exact fun v H' r => po v H' (RetOk.back I r)
  | bad => rw [hq] at po; exact po
  | exc c =>
    rw [hq] at po
    dsimp only at po
    by_cases hd : decide (c ∈ dom) = true
    · rw [if_pos hd] at po
      cases hv : hvOf (cl.map fun q => (q.2.1, q.2.2)) c with
      | none => rw [hv] at po; exact (show False from po).elim
      | some d =>
        rw [hv] at po
        exact catches (of_decide_eq_true hd) (Vw.hb I) (fun v H' r => po v H' (RetOk.back I r)) cl hx hv
    · rw [if_neg hd] at po; exact (show False from po).elim
end
end DL

set_option Elab.async false
set_option linter.all false
set_option maxRecDepth 100000
set_option maxHeartbeats 4000000
namespace DL
open PySem PySem.Spec PyProof.Rows L2

/-! ### a tuple's value taken apart; a tuple of owned names returned -/
def sUnp (O slots : List Nat) (m : Mr) : Ms := fun Γ => toOut (m (mask O Γ)) fun d => match d with
  | .tup ds => if ds.length = slots.length then .nx (bindAll Γ slots ds) else .bad
  | _ => .bad
section
variable {X : Cx} {cm : Nat → Value} {W : WX} {nr n i j l : Nat} {O O' : List Nat} {e e1 e2 e3 tg : Expr} {m m1 m2 m3 : Mr} {pos p : Pos}
theorem unp_ok {K : PySem.W.Frag} {slots : List Nat} {g : TG} {σ : L2.St} {H : Hp} {D : Ends} (hsl : slots.all (fun i => lv O i == 0) = true)
    (hg : ∀ (a : Addr) (vs : List V) (H : Hp) (Q : L2.St → Hp → Prop), H a = some (.tup vs) → vs.length = slots.length → Q (setAll σ slots vs) H → g (.ref a) σ H Q) (h : tS K cm W nr O O (sUnp O slots m) D σ H) : tAsg (tD K cm (WE W) 0 m) g D σ H := by
  obtain ⟨H0, G0, Γ, ⟨Ls, S, I⟩, po⟩ := h
  have hsl' : ∀ j ∈ slots, lv O j = 0 := fun j hj => by simpa using List.all_eq_true.mp hsl j hj
  unfold sUnp at po
  refine tD_P I (fun c e H' s => ?_) (fun e => ?_) fun d v H' G' L e hh st nd fr ow => ?_
  · rw [e] at po; exact po σ H' s
  · rw [e] at po; exact po
  · rw [e, toOut_ok] at po
    rw [Ow.zero] at ow
    cases d with
    | tup ds =>
      dsimp only at po
      by_cases hz : ds.length = slots.length
      · rw [if_pos hz] at po
        obtain ⟨a, us, rfl, ga, q⟩ := ow.2
        refine hg a us H' _ (st.s _ _ ga) (by rw [q.length, hz]) (po _ _ ?_)
        have I1 : SI K H0 G' O Γ σ H' := ⟨Ls, S, I.wider st⟩
        refine SI.narrow (SI.bind hsl' q (Same.refl _) I1) (I.g0v.trans st.g) fun b o z => ?_
        rcases st.new b o z with ⟨u, w⟩ | w
        · exact (Vw.inv w).2.1
        · exact .inr (none_back I.h0 w)
      · rw [if_neg hz] at po; exact (show False from po).elim
    | _ => exact (show False from po).elim
theorem ds_unp3 (he : DE X cm (WE W) 0 e m) (hg : PG X tg (gTup X.K 3 (gCons (gName i) (gCons (gName j) (gCons (gName l) gNil))))) (hsl : [i, j, l].all (fun i => lv O i == 0) = true := by rfl)
    (hs : swapsWithSole [tg] e pos.line X.env = pure false := by rfl) (hw : swappedStores [tg] e X.env = pure none := by rfl) (h1 : (assignEach [tg] X.env).map (·.2) = [assign tg X.env] := by rfl) : DS X cm W nr O O (.Assign [tg] e pos) (sUnp O [i, j, l] m) :=
  PS.of (ps_asg he hg hs hw h1) fun D σ H h => unp_ok hsl (fun a vs H Q ha hl q => by
    match vs, hl, ha, q with
    | [x, y, z], _, ha, q => exact ⟨a, _, rfl, .inl (.inl ha), rfl, x, _, rfl, y, _, rfl, z, _, rfl, rfl, q⟩) h
theorem ds_unp2 (he : DE X cm (WE W) 0 e m) (hg : PG X tg (gTup X.K 2 (gCons (gName i) (gCons (gName j) gNil)))) (hsl : [i, j].all (fun i => lv O i == 0) = true := by rfl)
    (hs : swapsWithSole [tg] e pos.line X.env = pure false := by rfl) (hw : swappedStores [tg] e X.env = pure none := by rfl) (h1 : (assignEach [tg] X.env).map (·.2) = [assign tg X.env] := by rfl) : DS X cm W nr O O (.Assign [tg] e pos) (sUnp O [i, j] m) :=
  PS.of (ps_asg he hg hs hw h1) fun D σ H h => unp_ok hsl (fun a vs H Q ha hl q => by
    match vs, hl, ha, q with
    | [x, y], _, ha, q => exact ⟨a, _, rfl, .inl (.inl ha), rfl, x, _, rfl, y, _, rfl, rfl, q⟩) h
def sMoveT (i j l : Nat) : Ms := fun Γ => match Γ[i]?, Γ[j]?, Γ[l]? with
  | some (some a), some (some b), some (some c) => .ret (.tup [a, b, c])
  | _, _, _ => .bad
theorem sMoveT_ok {K : PySem.W.Frag} {Γ : Ev} {H0 G0 : Hp} {D : Ends} (po : SPost K cm W nr H0 G0 O' (sMoveT i j l Γ) D) : ∃ a b c, Γ[i]? = some (some a) ∧ Γ[j]? = some (some b) ∧ Γ[l]? = some (some c) ∧ SPost K cm W nr H0 G0 O' (.ret (.tup [a, b, c])) D := by
  unfold sMoveT at po
  split at po
  · rename_i a b c h1 h2 h3
    exact ⟨a, b, c, h1, h2, h3, po⟩
  · exact po.elim
theorem ds_moveT {x1 : Nat} (hi : lv O i = n) (hj : lv O j = n) (hl : lv O l = n) (hij : i ≠ j) (hil : i ≠ l) (hjl : j ≠ l) (h1 : PE X e1 (tVar i)) (h2 : PE X e2 (tVar j)) (h3 : PE X e3 (tVar l))
    (s1 : starEach [e1, e2, e3] X.env = (false, eval e1 X.env) :: starEach [e2, e3] X.env := by rfl) (s2 : starEach [e2, e3] X.env = (false, eval e2 X.env) :: starEach [e3] X.env := by rfl) (s3 : starEach [e3] X.env = (false, eval e3 X.env) :: starEach [] X.env := by rfl) :
    DS X cm W (n + 1) O O' (.Return (some (.Tuple [e1, e2, e3] x1 p)) pos) (sMoveT i j l) := by
  refine PS.of (ps_ret (pe_tup (pa_cons h1 (pa_cons h2 (pa_cons h3 pa_nil s3) s2) s1))) fun D σ H ⟨H0, G0, Γ, ⟨Ls, S, I⟩, po⟩ => ?_
  obtain ⟨a, b, c, q1, q2, q3, po⟩ := sMoveT_ok po
  obtain ⟨v1, r1, o1⟩ := I.rep i a q1
  obtain ⟨v2, r2, o2⟩ := I.rep j b q2
  obtain ⟨v3, r3, o3⟩ := I.rep l c q3
  rw [hi] at o1; rw [hj] at o2; rw [hl] at o3
  refine ⟨v1, r1, v2, r2, v3, r3, ?_, fun q nq => ?_⟩
  · rw [sizeLine_eq]; exact Nat.le_of_ble_eq_true rfl
  have po' : ∀ v H', RetOk X.K (n + 1) H0 G0 (.tup [a, b, c]) v H' → D.rt v H' := po
  have hLS : ∀ b ∈ Ls i ++ (Ls j ++ Ls l), b ∈ S := fun b hb => by
    rcases List.mem_append.mp hb with hb | hb
    · exact I.sub i b hb
    · rcases List.mem_append.mp hb with hb | hb
      · exact I.sub j b hb
      · exact I.sub l b hb
  have nd : (Ls i ++ (Ls j ++ Ls l)).Nodup := by
    rw [List.nodup_append]
    refine ⟨I.nd i, ?_, fun x hx y hy z => ?_⟩
    · rw [List.nodup_append]
      exact ⟨I.nd j, I.nd l, fun x hx y hy z => I.dj j l hjl x hx (z ▸ hy)⟩
    · subst z
      rcases List.mem_append.mp hy with hy | hy
      · exact I.dj i j hij x hx hy
      · exact I.dj i l hil x hx hy
  have pS : q ∉ S := fun z => by obtain ⟨u, w⟩ := (I.own q z).2.2; rw [nq] at w; cases w
  have st : Stp H0 G0 H (Vw H0 G0 S H) := ⟨I.h0, I.g0v, Vw.same, fun a o q => (Vw.inv q).2.1⟩
  have st2 := st.trans (Stp.newH Vw.same nq (.tup [v1, v2, v3]))
  refine po' _ _ ⟨Vw H0 G0 S H, q :: (Ls i ++ (Ls j ++ Ls l)), st2, List.nodup_cons.mpr ⟨fun z => pS (hLS q z), nd⟩, fun b hb => ?_, q, [v1, v2, v3], _, rfl, upd_same, rfl, ?_⟩
  · rcases List.mem_cons.mp hb with rfl | hb
    · exact ⟨none_back I.h0 nq, none_back Vw.same nq⟩
    · refine ⟨(I.own b (hLS b hb)).1, ?_⟩
      cases z : Vw H0 G0 S H b with
      | none => rfl
      | some o => exact absurd (hLS b hb) (Vw.inv z).1
  · have up : Same H (upd H q (.tup [v1, v2, v3])) := fun b u e => by rw [upd_ne (ne_of_none e nq)]; exact e
    exact ⟨v1, [v2, v3], Ls i, Ls j ++ Ls l, rfl, rfl, o1.mono up (Same.refl _), v2, [v3], Ls j, Ls l, rfl, rfl, o2.mono up (Same.refl _), v3, [], Ls l, [], rfl, by simp, o3.mono up (Same.refl _), rfl, rfl⟩
/-- a, b, c = x, y, z (scalars) -/
def sPar3 (i j l : Nat) (m1 m2 m3 : Mr) : Ms := fun Γ => toOut (m1 Γ) fun d1 => toOut (m2 Γ) fun d2 => toOut (m3 Γ) fun d3 => ifO (isScal d1 && isScal d2 && isScal d3) (.nx (((Γ.set i (some d1)).set j (some d2)).set l (some d3)))
theorem ds_par3 {st : Stmt} (hO : lv O i = 0) (hO' : lv O j = 0) (hO2 : lv O l = 0) (h : PS X st (tPar3 i j l (tCons (tD X.K cm (WE W) 0 m1) (tCons (tD X.K cm (WE W) 0 m2) (tCons (tD X.K cm (WE W) 0 m3) tNil))))) : DS X cm W nr O O st (sPar3 i j l m1 m2 m3) := by
  refine PS.of h fun D σ H ⟨H0, G0, Γ, ⟨Ls, S, I⟩, po⟩ => ?_
  unfold sPar3 at po
  refine tD_S I po fun d1 v1 H1 hh1 po1 hv1 _ => ?_
  refine tD_S (I.grow hh1) po1 fun d2 v2 H2 hh2 po2 hv2 _ => ?_
  refine tD_S ((I.grow hh1).grow hh2) po2 fun d3 v3 H3 hh3 po3 hv3 _ => ?_
  obtain ⟨hc, po3⟩ := ifO_po po3
  obtain ⟨hc, h3⟩ := and_t hc
  obtain ⟨h1, h2⟩ := and_t hc
  have I2 : SI X.K H0 G0 O Γ σ H3 := ⟨Ls, S, ((I.grow hh1).grow hh2).grow hh3⟩
  exact ⟨v1, v2, v3, rfl, po3 _ _ (((I2.put0 hO h1 (((hv1 h1).mono hh2).mono hh3)).put0 hO' h2 ((hv2 h2).mono hh3)).put0 hO2 h3 (hv3 h3))⟩
end
end DL

set_option Elab.async false
set_option linter.all false
set_option maxRecDepth 100000
set_option maxHeartbeats 1000000
namespace DL
open PySem PySem.Spec PyProof.Rows L2

/-! ### a law's promise: True -/
def spW (m : List Dt → Res Dt) (K : PySem.W.Frag) : Sp := fun vs H Q _ => ∃ (a : Addr) (ns : List Int), vs = [V.ref a] ∧ SqL K H a (ns.map V.int) ∧ m [.scr ns] = .ok (.bl true) ∧ ∀ H', Q (.bl true) H'
theorem spW_of {m : List Dt → Res Dt} {K : PySem.W.Frag} {cm : Nat → Value} {vs : List V} {H : Hp} {Q : VK} {E : XK} (h : spW m K vs H Q E) : spD K cm 1 0 m vs H Q E := by
  obtain ⟨a, ns, rfl, hS, e, q⟩ := h
  refine ⟨[.scr ns], H, rfl, Same.refl _, ⟨_, _, rfl, ⟨a, rfl, hS⟩, rfl⟩, ?_⟩
  rw [e]
  intro v H' G' L st nd fr ow
  rw [Ow.zero] at ow
  obtain rfl : v = .bl true := ow.2
  exact q H'
theorem cx_never {P : Program} {w : World} {l : List PySem.Env} {H : Hp} {s : Shared} {e : Value} {s' : Shared} (h : L2.CX P w l H s (fun _ _ _ => False) e s') : False := by
  obtain ⟨_, _, _, _, _, _, _, _, _, _, _, _, z⟩ := h
  exact z
end DL

set_option Elab.async false
set_option linter.all false
set_option maxRecDepth 100000
set_option maxHeartbeats 1000000
namespace DL
open PySem PySem.Spec PyProof.Rows L2

/-! ### reading mirrors -/
theorem seq_nx {a b : Ms} {Γ Γ' : Ev} (h : a Γ = .nx Γ') : mSeq a b Γ = b Γ' := by unfold mSeq; rw [h]; rfl
theorem seq_ret {a b : Ms} {Γ : Ev} {d : Dt} (h : a Γ = .ret d) : mSeq a b Γ = .ret d := by unfold mSeq; rw [h]; rfl
theorem seq_exc {a b : Ms} {Γ : Ev} {c : Nat} (h : a Γ = .exc c) : mSeq a b Γ = .exc c := by unfold mSeq; rw [h]; rfl
theorem sT_nx {i k : Nat} {m : Mr} {Γ : Ev} {d : Dt} (h : m Γ = .ok d) (hd : deep k d = true) : sT i k m Γ = .nx (Γ.set i (some d)) := by unfold sT; rw [h]; exact if_pos hd
theorem sP_nx {i : Nat} {O : List Nat} {m : Mr} {Γ : Ev} {d : Dt} (h : m (mask O Γ) = .ok d) : sP O i m Γ = .nx (Γ.set i (some d)) := by unfold sP; rw [h]; rfl
theorem sRet_ok {m : Mr} {Γ : Ev} {d : Dt} (h : m Γ = .ok d) : sRet m Γ = .ret d := by unfold sRet; rw [h]; rfl
theorem if_t {c : Ev → Res Bool} {a b : Ms} {Γ : Ev} (h : c Γ = .ok true) : mIf c a b Γ = a Γ := by unfold mIf; rw [h]
theorem if_f {c : Ev → Res Bool} {a b : Ms} {Γ : Ev} (h : c Γ = .ok false) : mIf c a b Γ = b Γ := by unfold mIf; rw [h]
theorem bin_eq {f : Dt → Dt → Res Dt} {a b : Mr} {Γ : Ev} {x y : Dt} (h1 : a Γ = .ok x) (h2 : b Γ = .ok y) : mBin f a b Γ = f x y := by unfold mBin; rw [h1, h2]; rfl
theorem fn_eq {mf : List Dt → Res Dt} {k : Nat} {ms : Ev → Res (List Dt)} {Γ : Ev} {ds : List Dt} {d : Dt} (h : ms Γ = .ok ds) (hk : ds.length = k) (hd : mf ds = .ok d) : mFnN mf k ms Γ = .ok d := by
  unfold mFnN; rw [h, Res.bind_ok, hd]
  show guardR (decide (ds.length = k)) (.ok d) = .ok d
  rw [decide_eq_true hk]; rfl
theorem dEq_int (i j : Int) : dEq (.int i) (.int j) = decide (i = j) := by
  show PyData.eqv _ _ = _
  first
    | rfl
    | (unfold PyData.eqv; rfl)
    | simp [PyData.eqv, py]
theorem fEq_int (i j : Int) : fEq (.int i) (.int j) = .ok (.bl (decide (i = j))) := by
  show Res.ok (Dt.bl (dEq (.int i) (.int j))) = _
  rw [dEq_int]
theorem test_eq {m : Mr} {Γ : Ev} {b : Bool} (h : m Γ = .ok (.bl b)) : mTest m Γ = .ok b := by unfold mTest; rw [h]; rfl
theorem run_ret {n : Nat} {mb : Ms} {ds : List Dt} {d : Dt} (h : mb (startE n ds) = .ret d) : runF n mb ds = .ok d := by unfold runF; rw [h]
theorem run_exc {n : Nat} {mb : Ms} {ds : List Dt} {c : Nat} (h : mb (startE n ds) = .exc c) : runF n mb ds = .exc c := by unfold runF; rw [h]
def isTr (o : Out) : Bool := match o with | .ret (.bl true) => true | _ => false
theorem isTr_of {o : Out} (h : isTr o = true) : o = .ret (.bl true) := by
  unfold isTr at h
  split at h
  · rfl
  · cases h
/-- a cell of the script, nought behind its end -/
def bCell : Ms := mSeq (mIf (mTest (mBin fLt (mVar 1) (mCall fLen (mCons (mVar 0) mNil)))) (sRet (mBin fIx (mVar 0) (mVar 1))) mNext) (sRet (mC (.int 0)))
theorem atI_get (ns : List Int) (k : Nat) (h : k < ns.length) : atI ns (k : Int) = some (ns.getD k 0) := atI_nat (by rw [List.getD_eq_getElem?_getD, List.getElem?_eq_getElem h]; rfl)
theorem fIx_scr {ns : List Int} {i d : Int} (h : atI ns i = some d) : fIx (.scr ns) (.int i) = .ok (.int d) := by simp only [fIx, h]
theorem fIx_lst {ds : List Dt} {i : Int} {d : Dt} (h : atI ds i = some d) : fIx (.lst ds) (.int i) = .ok d := by simp only [fIx, h]
theorem cell_ok (ns : List Int) (k : Nat) : runF 2 bCell [.scr ns, .int k] = .ok (.int (ns.getD k 0)) := by
  by_cases h : k < ns.length
  · refine run_ret (seq_ret ((if_t (test_eq ?_)).trans (sRet_ok ?_)))
    · show Res.ok (Dt.bl (decide ((k : Int) < ns.length))) = _
      rw [decide_eq_true (by omega)]
    · exact fIx_scr (atI_get ns k h)
  · have e : bCell (startE 2 [.scr ns, .int k]) = .ret (.int 0) := by
      refine (seq_nx ((if_f (test_eq ?_)).trans rfl)).trans rfl
      show Res.ok (Dt.bl (decide ((k : Int) < ns.length))) = _
      rw [decide_eq_false (by omega)]
    rw [run_ret e, List.getD_eq_getElem?_getD, List.getElem?_eq_none (by omega)]; rfl
end DL

set_option Elab.async false
set_option linter.all false
set_option maxRecDepth 100000
namespace DL
/-! mirrors, printed by gen.py of law_k05_boards_laid -/
def b_odd_board : Ms :=
  (mSeq (sT 1 2 (mLc (mIRg (mC (.int 0)) (mVar 0)) [7] bYes (mBin fMul (mLst (mCons (mC (.int 0)) mNil)) (mVar 0))))
    (mSeq (sT 2 0 (mC (.int 0)))
    (mSeq (sT 3 0 (mBin fDiv (mVar 0) (mC (.int 2))))
    (mSeq (sFor [0, 2, 0, 0, 0, 0, 0, 0] (mIRg (mC (.int 1)) (mBin fAdd (mBin fMul (mVar 0) (mVar 0)) (mC (.int 1)))) [4]
    (mSeq (sSet2 1 (mVar 4) (mVar 2) (mVar 3))
    (mSeq (sT 5 0 (mBin fMod (mBin fSub (mVar 2) (mC (.int 1))) (mVar 0)))
    (mSeq (sT 6 0 (mBin fMod (mBin fAdd (mVar 3) (mC (.int 1))) (mVar 0)))
    (mIf (mTest (mBin fEq (mBin fIx (mBin fIx (mVar 1) (mVar 5)) (mVar 6)) (mC (.int 0)))) (mSeq (sT 2 0 (mVar 5))
    (sT 3 0 (mVar 6))) (sT 2 0 (mBin fMod (mBin fAdd (mVar 2) (mC (.int 1))) (mVar 0))))))))
    (sMove 1)))))
def m_odd_board : List Dt → Res Dt := runF 8 b_odd_board

def b_fourfold_board : Ms :=
  (mSeq (sT 1 1 (mLst mNil))
    (mSeq (sFor [0, 2, 0, 0, 0, 0] (mIRg (mC (.int 0)) (mVar 0)) [2]
    (mSeq (sT 3 1 (mLst mNil))
    (mSeq (sFor [0, 2, 0, 1, 0, 0] (mIRg (mC (.int 0)) (mVar 0)) [4]
    (mSeq (sT 5 0 (mBin fAdd (mBin fAdd (mBin fMul (mVar 2) (mVar 0)) (mVar 4)) (mC (.int 1))))
    (mSeq (mIf (bOr (mTest (mBin fEq (mBin fMod (mVar 2) (mC (.int 4))) (mBin fMod (mVar 4) (mC (.int 4))))) (mTest (mBin fEq (mBin fAdd (mBin fMod (mVar 2) (mC (.int 4))) (mBin fMod (mVar 4) (mC (.int 4)))) (mC (.int 3))))) (sT 5 0 (mBin fSub (mBin fAdd (mBin fMul (mVar 0) (mVar 0)) (mC (.int 1))) (mVar 5))) mNext)
    (sAppT 3 0 (mVar 5)))))
    (sAppM 1 3))))
    (sMove 1)))
def m_fourfold_board : List Dt → Res Dt := runF 6 b_fourfold_board

def b_block_of : Ms :=
  (mSeq (sT 3 0 (mBin fDiv (mVar 2) (mC (.int 2))))
    (mSeq (sT 4 0 (mBin fLe (mVar 0) (mVar 3)))
    (mSeq (mIf (bAnd (mTest (mBin fEq (mVar 1) (mVar 3))) (bOr (mTest (mBin fEq (mVar 0) (mVar 3))) (mTest (mBin fEq (mVar 0) (mBin fAdd (mVar 3) (mC (.int 1))))))) (sT 4 0 (mBin fEq (mVar 0) (mBin fAdd (mVar 3) (mC (.int 1))))) mNext)
    (mSeq (mIf (mTest (mVar 4)) (sRet (mLst (mCons (mC (.int 4)) (mCons (mC (.int 1)) (mCons (mC (.int 2)) (mCons (mC (.int 3)) mNil)))))) mNext)
    (mSeq (mIf (mTest (mBin fLe (mVar 0) (mBin fAdd (mVar 3) (mC (.int 1))))) (sRet (mLst (mCons (mC (.int 1)) (mCons (mC (.int 4)) (mCons (mC (.int 2)) (mCons (mC (.int 3)) mNil)))))) mNext)
    (sRet (mLst (mCons (mC (.int 1)) (mCons (mC (.int 4)) (mCons (mC (.int 3)) (mCons (mC (.int 2)) mNil)))))))))))
def m_block_of : List Dt → Res Dt := runF 5 b_block_of

def b_twofold_board : Ms :=
  (mSeq (sT 1 0 (mBin fDiv (mVar 0) (mC (.int 2))))
    (mSeq (sT 2 2 (mFnN m_odd_board 1 (mCons (mVar 1) mNil)))
    (mSeq (sT 3 2 (mLc (mIRg (mC (.int 0)) (mVar 0)) [6] bYes (mBin fMul (mLst (mCons (mC (.int 0)) mNil)) (mVar 0))))
    (mSeq (sFor [0, 0, 0, 2, 0, 0, 0, 0] (mIRg (mC (.int 0)) (mVar 1)) [4]
    (sFor [0, 0, 0, 2, 0, 0, 0, 0] (mIRg (mC (.int 0)) (mVar 1)) [5]
    (mSeq (sT 7 1 (mFnN m_block_of 3 (mCons (mVar 4) (mCons (mVar 5) (mCons (mVar 1) mNil)))))
    (sFor [0, 0, 0, 2, 0, 0, 0, 0] (mIRg (mC (.int 0)) (mC (.int 4))) [6]
    (sSet2 3 (mBin fAdd (mBin fMul (mC (.int 4)) (mBin fSub (mBin fIx (mBin fIx (mVar 2) (mVar 4)) (mVar 5)) (mC (.int 1)))) (mBin fIx (mVar 7) (mVar 6))) (mBin fAdd (mBin fMul (mC (.int 2)) (mVar 4)) (mBin fDiv (mVar 6) (mC (.int 2)))) (mBin fAdd (mBin fMul (mC (.int 2)) (mVar 5)) (mBin fMod (mVar 6) (mC (.int 2)))))))))
    (sMove 3)))))
def m_twofold_board : List Dt → Res Dt := runF 8 b_twofold_board

def b_laid : Ms :=
  (mSeq (mIf (bOr (bNot (mTest (mChain (mC (.int 1)) (mVar 0) (mC (.int 12))))) (mTest (mBin fEq (mVar 0) (mC (.int 2))))) (sRaise 2) mNext)
    (mSeq (mIf (mTest (mBin fEq (mBin fMod (mVar 0) (mC (.int 2))) (mC (.int 1)))) (sRet (mFnN m_odd_board 1 (mCons (mVar 0) mNil))) mNext)
    (mSeq (mIf (mTest (mBin fEq (mBin fMod (mVar 0) (mC (.int 4))) (mC (.int 0)))) (sRet (mFnN m_fourfold_board 1 (mCons (mVar 0) mNil))) mNext)
    (sRet (mFnN m_twofold_board 1 (mCons (mVar 0) mNil))))))
def m_laid : List Dt → Res Dt := runF 1 b_laid

def b__law_cell_at : Ms :=
  (mSeq (mIf (mTest (mBin fLt (mVar 1) (mCall fLen (mCons (mVar 0) mNil)))) (sRet (mBin fIx (mVar 0) (mVar 1))) mNext)
    (sRet (mC (.int 0))))
def m__law_cell_at : List Dt → Res Dt := runF 2 b__law_cell_at

def b__law_whole : Ms :=
  (sRet (mAnd (mUn (fIsi "int") (mVar 0)) (mUn fNot (mUn (fIsi "bool") (mVar 0)))))
def m__law_whole : List Dt → Res Dt := runF 1 b__law_whole

def b__law_flat : Ms :=
  (mSeq (sT 1 1 (mLst mNil))
    (mSeq (sFor [0, 1, 0] (mIL (mVar 0)) [2]
    (sExtP [0, 1, 0] 1 (mVar 2)))
    (sMove 1)))
def m__law_flat : List Dt → Res Dt := runF 3 b__law_flat

def b__law_sums : Ms :=
  (mSeq (sT 1 0 (mCall fLen (mCons (mVar 0) mNil)))
    (mSeq (sT 2 1 (mBin fMul (mLst (mCons (mC (.int 0)) mNil)) (mVar 1)))
    (mSeq (sT 3 1 (mLst (mCons (mC (.int 0)) (mCons (mC (.int 0)) mNil))))
    (mSeq (sFor [0, 0, 1, 1, 0, 0, 0] (mIRg (mC (.int 0)) (mVar 1)) [4]
    (sFor [0, 0, 1, 1, 0, 0, 0] (mIRg (mC (.int 0)) (mVar 1)) [5]
    (mSeq (sSetT 2 0 (mBin fAdd (mBin fIx (mVar 2) (mVar 5)) (mBin fIx (mBin fIx (mVar 0) (mVar 4)) (mVar 5))) (mVar 5))
    (mSeq (sSetT 3 0 (mBin fAdd (mBin fIx (mVar 3) (mC (.int 0))) (mBin fMul (mBin fIx (mBin fIx (mVar 0) (mVar 4)) (mVar 5)) (mCall fInt (mCons (mBin fEq (mVar 4) (mVar 5)) mNil)))) (mC (.int 0)))
    (sSetT 3 0 (mBin fAdd (mBin fIx (mVar 3) (mC (.int 1))) (mBin fMul (mBin fIx (mBin fIx (mVar 0) (mVar 4)) (mVar 5)) (mCall fInt (mCons (mBin fEq (mBin fAdd (mVar 4) (mVar 5)) (mBin fSub (mVar 1) (mC (.int 1)))) mNil)))) (mC (.int 1)))))))
    (sRet (mTup (mCons (mLc (mIL (mVar 0)) [6] bYes (mCall fSum (mCons (mVar 6) mNil))) (mCons (mVar 2) (mCons (mVar 3) mNil)))))))))
def m__law_sums : List Dt → Res Dt := runF 7 b__law_sums

def b__law_like : Ms :=
  (mSeq (sUnp [0, 0, 0, 0, 0] [2, 3, 4] (mFnN m__law_sums 1 (mCons (mVar 0) mNil)))
    (mSeq (sT 1 0 (mBin fDiv (mBin fMul (mCall fLen (mCons (mVar 0) mNil)) (mBin fAdd (mBin fMul (mCall fLen (mCons (mVar 0) mNil)) (mCall fLen (mCons (mVar 0) mNil))) (mC (.int 1)))) (mC (.int 2))))
    (sRet (mBin fEq (onIs (mBin fAdd (mBin fAdd (mVar 2) (mVar 3)) (mVar 4)) cSortS) (mLst (mCons (mVar 1) mNil))))))
def m__law_like : List Dt → Res Dt := runF 5 b__law_like

def b__law_met : Ms :=
  (sTry [2] [([2], (.bl true))]
    (sRet (mFn m_laid 1 (mCons (mVar 0) mNil))))
def m__law_met : List Dt → Res Dt := runF 2 b__law_met

def p_law_0 : Ms :=
  (sT 1 0 (mFnN m__law_cell_at 2 (mCons (mVar 0) (mCons (mC (.int 0)) mNil))))
def p_law_1 : Ms :=
  (sT 2 0 (mBin fAdd (mC (.int 1)) (mBin fMod (mVar 1) (mC (.int 12)))))
def p_law_2 : Ms :=
  (mIf (mTest (mBin fEq (mBin fMod (mBin fDiv (mVar 1) (mC (.int 12))) (mC (.int 4))) (mC (.int 1)))) (sT 2 0 (mBin fIx (mLst (mCons (mC (.int 0)) (mCons (mC (.int 2)) (mCons (mC (.int 13)) (mCons (mUn fNeg (mC (.int 3))) (mCons (mC (.int 14)) (mCons (mBin fPow (mC (.int 10)) (mC (.int 9))) (mCons (mUn fNeg (mBin fPow (mC (.int 10)) (mC (.int 9)))) mNil)))))))) (mBin fMod (mBin fDiv (mVar 1) (mC (.int 48))) (mC (.int 7))))) mNext)
def p_law_3 : Ms :=
  (sFor [0, 0, 0, 0, 0, 0, 0, 0, 0] (mIRg (mC (.int 0)) (mC (.int 2))) [3]
    (mSeq (sT 4 2 (mFnN m__law_met 1 (mCons (mVar 2) mNil)))
    (mIf (bOr (mTest (mBin fLt (mVar 2) (mC (.int 1)))) (bOr (mTest (mBin fGt (mVar 2) (mC (.int 12)))) (mTest (mBin fEq (mVar 2) (mC (.int 2)))))) (mIf (mTest (mBin fNotB (mVar 4) (mC (.bl true)))) (sRet (mC (.bl false))) mNext) (mSeq (mIf (bOr (bNot (mTest (mUn (fIsi "list") (mVar 4)))) (mTest (mBin fNe (mCall fLen (mCons (mVar 4) mNil)) (mVar 2)))) (sRet (mC (.bl false))) mNext)
    (mSeq (mIf (bNot (mTest (mCall fAll (mCons (mLc (mIL (mVar 4)) [6] bYes (mAnd (mUn (fIsi "list") (mVar 6)) (mBin fEq (mCall fLen (mCons (mVar 6) mNil)) (mVar 2)))) mNil)))) (sRet (mC (.bl false))) mNext)
    (mSeq (sT 5 1 (mFnN m__law_flat 1 (mCons (mVar 4) mNil)))
    (mSeq (mIf (bOr (bNot (mTest (mCall fAll (mCons (mLc (mIL (mVar 5)) [8] bYes (mFnN m__law_whole 1 (mCons (mVar 8) mNil))) mNil)))) (mTest (mBin fNe (mCall fSorted (mCons (mVar 5) mNil)) (mLc (mIRg (mC (.int 0)) (mBin fMul (mVar 2) (mVar 2))) [7] bYes (mBin fAdd (mVar 7) (mC (.int 1))))))) (sRet (mC (.bl false))) mNext)
    (mSeq (mIf (bNot (mTest (mFnN m__law_like 1 (mCons (mVar 4) mNil)))) (sRet (mC (.bl false))) mNext)
    (mSeq (sClrR 4 (mC (.int 0)))
    (sPop 4))))))))))
def p_law_4 : Ms :=
  (sRet (mC (.bl true)))
def b_law : Ms :=
  (mSeq p_law_0
    (mSeq p_law_1
    (mSeq p_law_2
    (mSeq p_law_3
    p_law_4))))
def m_law : List Dt → Res Dt := runF 9 b_law
end DL

set_option Elab.async false
set_option linter.all false
set_option maxRecDepth 100000
set_option maxHeartbeats 4000000
namespace DL
open PySem PySem.Spec PyProof.Rows L2
/-! derivations, printed by gen.py of law_k05_boards_laid -/
def topS (i : Nat) : Stmt := PySem.Challenge.pw_likesums_k05_boards_laid.main.body.getD i (.Pass ⟨0, 0, 0, 0⟩)
abbrev s_odd_board : Stmt := topS 4
abbrev N_odd_board : List Str := ["size", "rows", "r", "c", "number", "up", "across", "k"]
theorem sc_odd_board : FnScope N_odd_board ["size"] (defScope s_odd_board) := ⟨rfl, rfl, rfl, by decide +kernel, rfl, by decide +kernel, by decide +kernel⟩
abbrev s_fourfold_board : Stmt := topS 5
abbrev N_fourfold_board : List Str := ["size", "rows", "r", "row", "c", "number"]
theorem sc_fourfold_board : FnScope N_fourfold_board ["size"] (defScope s_fourfold_board) := ⟨rfl, rfl, rfl, by decide +kernel, rfl, by decide +kernel, by decide +kernel⟩
abbrev s_block_of : Stmt := topS 6
abbrev N_block_of : List Str := ["r", "c", "half", "middle", "low"]
theorem sc_block_of : FnScope N_block_of ["r", "c", "half"] (defScope s_block_of) := ⟨rfl, rfl, rfl, by decide +kernel, rfl, by decide +kernel, by decide +kernel⟩
abbrev s_twofold_board : Stmt := topS 7
abbrev N_twofold_board : List Str := ["size", "half", "odd", "rows", "r", "c", "k", "block"]
theorem sc_twofold_board : FnScope N_twofold_board ["size"] (defScope s_twofold_board) := ⟨rfl, rfl, rfl, by decide +kernel, rfl, by decide +kernel, by decide +kernel⟩
abbrev s_laid : Stmt := topS 8
abbrev N_laid : List Str := ["size"]
theorem sc_laid : FnScope N_laid ["size"] (defScope s_laid) := ⟨rfl, rfl, rfl, by decide +kernel, rfl, by decide +kernel, by decide +kernel⟩
abbrev s__law_cell_at : Stmt := topS 10
abbrev N__law_cell_at : List Str := ["script", "k"]
theorem sc__law_cell_at : FnScope N__law_cell_at ["script", "k"] (defScope s__law_cell_at) := ⟨rfl, rfl, rfl, by decide +kernel, rfl, by decide +kernel, by decide +kernel⟩
abbrev s__law_whole : Stmt := topS 11
abbrev N__law_whole : List Str := ["found"]
theorem sc__law_whole : FnScope N__law_whole ["found"] (defScope s__law_whole) := ⟨rfl, rfl, rfl, by decide +kernel, rfl, by decide +kernel, by decide +kernel⟩
abbrev s__law_flat : Stmt := topS 12
abbrev N__law_flat : List Str := ["board", "found", "row"]
theorem sc__law_flat : FnScope N__law_flat ["board"] (defScope s__law_flat) := ⟨rfl, rfl, rfl, by decide +kernel, rfl, by decide +kernel, by decide +kernel⟩
abbrev s__law_sums : Stmt := topS 13
abbrev N__law_sums : List Str := ["board", "size", "columns", "ways", "r", "c", "row"]
theorem sc__law_sums : FnScope N__law_sums ["board"] (defScope s__law_sums) := ⟨rfl, rfl, rfl, by decide +kernel, rfl, by decide +kernel, by decide +kernel⟩
abbrev s__law_like : Stmt := topS 14
abbrev N__law_like : List Str := ["board", "due", "rows", "columns", "ways"]
theorem sc__law_like : FnScope N__law_like ["board"] (defScope s__law_like) := ⟨rfl, rfl, rfl, by decide +kernel, rfl, by decide +kernel, by decide +kernel⟩
abbrev s__law_met : Stmt := topS 15
abbrev N__law_met : List Str := ["size", "e"]
theorem sc__law_met : FnScope N__law_met ["size"] (defScope s__law_met) := ⟨rfl, rfl, rfl, by decide +kernel, rfl, by decide +kernel, by decide +kernel⟩
abbrev s_law : Stmt := topS 16
abbrev N_law : List Str := ["script", "cell", "size", "lap", "found", "numbers", "row", "k", "x"]
theorem sc_law : FnScope N_law ["script"] (defScope s_law) := ⟨rfl, rfl, rfl, by decide +kernel, rfl, by decide +kernel, by decide +kernel⟩
structure Txt (K : PySem.W.Frag) (mg : Str → Option Value) (C : Nat → Addr) (f : Nat → Addr) (fd : Nat → FuncData) (u : Nat → Value) : Prop where
  F_odd_board : Fun K "odd_board" "odd_board" s_odd_board (f 0) (fd 0)
  g_odd_board : mg "odd_board" = some (.ref (f 0))
  b_odd_board : Binds K (fd 0) ["size"] []
  F_fourfold_board : Fun K "fourfold_board" "fourfold_board" s_fourfold_board (f 1) (fd 1)
  g_fourfold_board : mg "fourfold_board" = some (.ref (f 1))
  b_fourfold_board : Binds K (fd 1) ["size"] []
  F_block_of : Fun K "block_of" "block_of" s_block_of (f 2) (fd 2)
  g_block_of : mg "block_of" = some (.ref (f 2))
  b_block_of : Binds K (fd 2) ["r", "c", "half"] []
  F_twofold_board : Fun K "twofold_board" "twofold_board" s_twofold_board (f 3) (fd 3)
  g_twofold_board : mg "twofold_board" = some (.ref (f 3))
  b_twofold_board : Binds K (fd 3) ["size"] []
  F_laid : Fun K "laid" "laid" s_laid (f 4) (fd 4)
  g_laid : mg "laid" = some (.ref (f 4))
  b_laid : Binds K (fd 4) ["size"] []
  F__law_cell_at : Fun K "_law_cell_at" "_law_cell_at" s__law_cell_at (f 5) (fd 5)
  g__law_cell_at : mg "_law_cell_at" = some (.ref (f 5))
  b__law_cell_at : Binds K (fd 5) ["script", "k"] []
  F__law_whole : Fun K "_law_whole" "_law_whole" s__law_whole (f 6) (fd 6)
  g__law_whole : mg "_law_whole" = some (.ref (f 6))
  b__law_whole : Binds K (fd 6) ["found"] []
  F__law_flat : Fun K "_law_flat" "_law_flat" s__law_flat (f 7) (fd 7)
  g__law_flat : mg "_law_flat" = some (.ref (f 7))
  b__law_flat : Binds K (fd 7) ["board"] []
  F__law_sums : Fun K "_law_sums" "_law_sums" s__law_sums (f 8) (fd 8)
  g__law_sums : mg "_law_sums" = some (.ref (f 8))
  b__law_sums : Binds K (fd 8) ["board"] []
  F__law_like : Fun K "_law_like" "_law_like" s__law_like (f 9) (fd 9)
  g__law_like : mg "_law_like" = some (.ref (f 9))
  b__law_like : Binds K (fd 9) ["board"] []
  F__law_met : Fun K "_law_met" "_law_met" s__law_met (f 10) (fd 10)
  g__law_met : mg "_law_met" = some (.ref (f 10))
  b__law_met : Binds K (fd 10) ["size"] []
  F_law : Fun K "law" "law" s_law (f 11) (fd 11)
  g_law : mg "law" = some (.ref (f 11))
  b_law : Binds K (fd 11) ["script"] []
  n_ValueError : mg "ValueError" = none
  n_all : mg "all" = none
  n_bool : mg "bool" = none
  n_int : mg "int" = none
  n_isinstance : mg "isinstance" = none
  n_len : mg "len" = none
  n_list : mg "list" = none
  n_range : mg "range" = none
  n_set : mg "set" = none
  n_sorted : mg "sorted" = none
  n_sum : mg "sum" = none
  c_SumError : mg "SumError" = some (.ref (C 9))
  kc_SumError : PySem.W.keepIn K (.ref (C 9)) = true
  bc_SumError : PySem.W.subIn K (.ref (C 9)) (.type "BaseException") = some true
  tc_SumError : PySem.W.typeIn K (.ref (C 9)) = some (.type "type")
  c_NoSize : mg "NoSize" = some (.ref (C 2))
  kc_NoSize : PySem.W.keepIn K (.ref (C 2)) = true
  bc_NoSize : PySem.W.subIn K (.ref (C 2)) (.type "BaseException") = some true
  tc_NoSize : PySem.W.typeIn K (.ref (C 2)) = some (.type "type")
  xc_NoSize : ExcC K (C 2)
  kv_NoSize : PySem.W.kitOne K (.ref (C 2)) (.type "ValueError") = some true
  ks_NoSize_SumError : PySem.W.kitOne K (.ref (C 2)) (.ref (C 9)) = some true
  em_NoSize_SumError : PySem.W.exmOne K (.ref (C 2)) (.ref (C 9)) = some true
  ks_NoSize_NoSize : PySem.W.kitOne K (.ref (C 2)) (.ref (C 2)) = some true
  em_NoSize_NoSize : PySem.W.exmOne K (.ref (C 2)) (.ref (C 2)) = some true
  x_NoSize : PySem.W.excIn K (C 2) [.type "ValueError", .type "Exception", .type "BaseException", .type "object"] "ValueError.__new__" = true
abbrev cmOf (C : Nat → Addr) : Nat → Value := fun c => .ref (C c)
section
variable {P : Program} {w : World} {K : PySem.W.Frag} {mg : Str → Option Value} {base : Heap} {C f : Nat → Addr} {fd : Nat → FuncData} {u : Nat → Value}
theorem od_odd_board (T : Txt K mg C f fd u) (cdv : Value) (A : Around) (outer : List PySem.Env) (s : Shared) (H : Hp) (E : XK) (hr : Room 0 (A.deeper (envOfC "odd_board" (defScope s_odd_board) s.heap.objs.size (f 0) cdv))) :
    DSs (cxOf (L2.CX P w) P w K mg base N_odd_board "odd_board" (defScope s_odd_board) (f 0) cdv A outer s H E) (cmOf C) (fun cls d _ H => E cls d H) 2 [0, 0, 0, 0, 0, 0, 0, 0] [0, 0, 0, 0, 0, 0, 0, 0] (defBody s_odd_board) b_odd_board := by
  have hp := passes_of (X := cxOf (L2.CX P w) P w K mg base N_odd_board "odd_board" (defScope s_odd_board) (f 0) cdv A outer s H E) rfl
  have tk := takes_of (X := cxOf (L2.CX P w) P w K mg base N_odd_board "odd_board" (defScope s_odd_board) (f 0) cdv A outer s H E) (E := E) rfl rfl rfl rfl
  have px := fun σ => passAt tk σ
  exact (dss_cons (O1 := [0, 2, 0, 0, 0, 0, 0, 0]) (ds_setT (k := 2) (n := 2) (asg_lc rfl sc_odd_board.nd rfl rfl (sw_true rfl rfl rfl (by decide +kernel)) (di_rg1 (i := 7) T.n_range (de_var (i := 0) (pv 0))) (blkOk_by (N := N_odd_board) (sc := (defScope s_odd_board)) (own := [("k", 7)]) (by decide +kernel)) (by rfl) (fun _ _ _ _ _ => (pg_name (i := 7) sc_odd_board.nd rfl (Or.inl rfl))) (fun _ _ _ _ _ => dts_nil) (fun _ _ _ _ _ => (de_mul (by decide) (de_zero (n := 1) (de_lst (da_cons de_int da_nil))) (de_var (i := 0) (pv 0))))) (by decide) (Or.inr (by decide)))
    (dss_cons (O1 := [0, 2, 0, 0, 0, 0, 0, 0]) (ds_setT (k := 0) (n := 0) (asg_name de_int sc_odd_board.nd rfl (Or.inl rfl)) (by decide) (Or.inl rfl))
    (dss_cons (O1 := [0, 2, 0, 0, 0, 0, 0, 0]) (ds_setT (k := 0) (n := 0) (asg_name (de_fdiv (de_var (i := 0) (pv 0)) de_int) sc_odd_board.nd rfl (Or.inl rfl)) (by decide) (Or.inl rfl))
    (dss_cons (O1 := [0, 2, 0, 0, 0, 0, 0, 0]) (ds_for hp rfl (di_rg2 (i := 4) T.n_range de_int (de_add (by decide) (de_mul (by decide) (de_var (i := 0) (pv 0)) (de_var (i := 0) (pv 0))) de_int)) (pg_name (i := 4) sc_odd_board.nd rfl (Or.inl rfl))
    (dss_cons (O1 := [0, 2, 0, 0, 0, 0, 0, 0]) (ds_set2 (i := 1) (n := 0) rfl (de_var (i := 4) (pv 4)) (by exact pg_sub (pe_ix ix_seq (pv 1) (de_var (i := 2) (pv 2)) (fun _ _ => rfl)) (de_var (i := 3) (pv 3)) set_list))
    (dss_cons (O1 := [0, 2, 0, 0, 0, 0, 0, 0]) (ds_setT (k := 0) (n := 0) (asg_name (de_mod (de_sub (de_var (i := 2) (pv 2)) de_int) (de_var (i := 0) (pv 0))) sc_odd_board.nd rfl (Or.inl rfl)) (by decide) (Or.inl rfl))
    (dss_cons (O1 := [0, 2, 0, 0, 0, 0, 0, 0]) (ds_setT (k := 0) (n := 0) (asg_name (de_mod (de_add (by decide) (de_var (i := 3) (pv 3)) de_int) (de_var (i := 0) (pv 0))) sc_odd_board.nd rfl (Or.inl rfl)) (by decide) (Or.inl rfl))
    (dss_one (ds_if (O' := [0, 2, 0, 0, 0, 0, 0, 0]) (dt_eq (de_ix (de_ix (de_var (i := 1) (pv 1)) (de_var (i := 5) (pv 5))) (de_var (i := 6) (pv 6))) de_int (hu64 hr)) (dss_cons (O1 := [0, 2, 0, 0, 0, 0, 0, 0]) (ds_setT (k := 0) (n := 0) (asg_name (de_var (i := 5) (pv 5)) sc_odd_board.nd rfl (Or.inl rfl)) (by decide) (Or.inl rfl))
    (dss_one (ds_setT (k := 0) (n := 0) (asg_name (de_var (i := 6) (pv 6)) sc_odd_board.nd rfl (Or.inl rfl)) (by decide) (Or.inl rfl)))) (dss_one (ds_setT (k := 0) (n := 0) (asg_name (de_mod (de_add (by decide) (de_var (i := 2) (pv 2)) de_int) (de_var (i := 0) (pv 0))) sc_odd_board.nd rfl (Or.inl rfl)) (by decide) (Or.inl rfl)))))))))
    (dss_one (ds_move (i := 1) (by exact pv 1)))))))
theorem oe_odd_board (T : Txt K mg C f fd u) : FnOk P w K mg base (L2.CX P w) (0 + 1) (f 0) (fd 0) ["size"] (spD K (cmOf C) (["size"] : List Str).length 2 (runF N_odd_board.length b_odd_board)) :=
  okD (O := [0, 0, 0, 0, 0, 0, 0, 0]) (O' := [0, 0, 0, 0, 0, 0, 0, 0]) T.F_odd_board sc_odd_board (by rfl) (od_odd_board T)
theorem ok_odd_board (T : Txt K mg C f fd u) : FnOk P w K mg base (L2.CX P w) 1 (f 0) (fd 0) ["size"] (spD K (cmOf C) 1 2 m_odd_board) := oe_odd_board T
theorem od_fourfold_board (T : Txt K mg C f fd u) (cdv : Value) (A : Around) (outer : List PySem.Env) (s : Shared) (H : Hp) (E : XK) (hr : Room 0 (A.deeper (envOfC "fourfold_board" (defScope s_fourfold_board) s.heap.objs.size (f 1) cdv))) :
    DSs (cxOf (L2.CX P w) P w K mg base N_fourfold_board "fourfold_board" (defScope s_fourfold_board) (f 1) cdv A outer s H E) (cmOf C) (fun cls d _ H => E cls d H) 2 [0, 0, 0, 0, 0, 0] [0, 0, 0, 0, 0, 0] (defBody s_fourfold_board) b_fourfold_board := by
  have hp := passes_of (X := cxOf (L2.CX P w) P w K mg base N_fourfold_board "fourfold_board" (defScope s_fourfold_board) (f 1) cdv A outer s H E) rfl
  have tk := takes_of (X := cxOf (L2.CX P w) P w K mg base N_fourfold_board "fourfold_board" (defScope s_fourfold_board) (f 1) cdv A outer s H E) (E := E) rfl rfl rfl rfl
  have px := fun σ => passAt tk σ
  exact (dss_cons (O1 := [0, 2, 0, 0, 0, 0]) (ds_setT (k := 1) (n := 2) (asg_name (de_lst da_nil) sc_fourfold_board.nd rfl (Or.inl rfl)) (by decide) (Or.inr (by decide)))
    (dss_cons (O1 := [0, 2, 0, 0, 0, 0]) (ds_for hp rfl (di_rg1 (i := 2) T.n_range (de_var (i := 0) (pv 0))) (pg_name (i := 2) sc_fourfold_board.nd rfl (Or.inl rfl))
    (dss_post [0, 2, 0, 1, 0, 0] (dss_cons (O1 := [0, 2, 0, 1, 0, 0]) (ds_setT (k := 1) (n := 1) (asg_name (de_lst da_nil) sc_fourfold_board.nd rfl (Or.inl rfl)) (by decide) (Or.inr (by decide)))
    (dss_cons (O1 := [0, 2, 0, 1, 0, 0]) (ds_for hp rfl (di_rg1 (i := 4) T.n_range (de_var (i := 0) (pv 0))) (pg_name (i := 4) sc_fourfold_board.nd rfl (Or.inl rfl))
    (dss_cons (O1 := [0, 2, 0, 1, 0, 0]) (ds_setT (k := 0) (n := 0) (asg_name (de_add (by decide) (de_add (by decide) (de_mul (by decide) (de_var (i := 2) (pv 2)) (de_var (i := 0) (pv 0))) (de_var (i := 4) (pv 4))) de_int) sc_fourfold_board.nd rfl (Or.inl rfl)) (by decide) (Or.inl rfl))
    (dss_cons (O1 := [0, 2, 0, 1, 0, 0]) (ds_if (O' := [0, 2, 0, 1, 0, 0]) (DW.dt (dw_or (dt_eq (de_mod (de_var (i := 2) (pv 2)) de_int) (de_mod (de_var (i := 4) (pv 4)) de_int) (hu64 hr)) (dw_or1 (dt_eq (de_add (by decide) (de_mod (de_var (i := 2) (pv 2)) de_int) (de_mod (de_var (i := 4) (pv 4)) de_int)) de_int (hu64 hr))))) (dss_one (ds_setT (k := 0) (n := 0) (asg_name (de_sub (de_add (by decide) (de_mul (by decide) (de_var (i := 0) (pv 0)) (de_var (i := 0) (pv 0))) de_int) (de_var (i := 5) (pv 5))) sc_fourfold_board.nd rfl (Or.inl rfl)) (by decide) (Or.inl rfl))) dss_nil)
    (dss_one (ds_appT (i := 3) (n := 0) (k := 0) rfl (by decide) (by exact pe_bm PySem.F.plainAttrs_list PySem.F.slot_list_append PySem.F.type_list_append mt_append (pv 3) (pa_cons (de_var (i := 5) (pv 5)) pa_nil)))))))
    (dss_one (ds_appM (i := 1) (j := 3) (n := 1) rfl rfl (by decide) (by exact pe_bm PySem.F.plainAttrs_list PySem.F.slot_list_append PySem.F.type_list_append mt_append (pv 1) (pa_cons (pv 3) pa_nil))))))))
    (dss_one (ds_move (i := 1) (by exact pv 1)))))
theorem oe_fourfold_board (T : Txt K mg C f fd u) : FnOk P w K mg base (L2.CX P w) (0 + 1) (f 1) (fd 1) ["size"] (spD K (cmOf C) (["size"] : List Str).length 2 (runF N_fourfold_board.length b_fourfold_board)) :=
  okD (O := [0, 0, 0, 0, 0, 0]) (O' := [0, 0, 0, 0, 0, 0]) T.F_fourfold_board sc_fourfold_board (by rfl) (od_fourfold_board T)
theorem ok_fourfold_board (T : Txt K mg C f fd u) : FnOk P w K mg base (L2.CX P w) 1 (f 1) (fd 1) ["size"] (spD K (cmOf C) 1 2 m_fourfold_board) := oe_fourfold_board T
theorem od_block_of (T : Txt K mg C f fd u) (cdv : Value) (A : Around) (outer : List PySem.Env) (s : Shared) (H : Hp) (E : XK) (hr : Room 0 (A.deeper (envOfC "block_of" (defScope s_block_of) s.heap.objs.size (f 2) cdv))) :
    DSs (cxOf (L2.CX P w) P w K mg base N_block_of "block_of" (defScope s_block_of) (f 2) cdv A outer s H E) (cmOf C) (fun cls d _ H => E cls d H) 1 [0, 0, 0, 0, 0] [0, 0, 0, 0, 0] (defBody s_block_of) b_block_of := by
  have hp := passes_of (X := cxOf (L2.CX P w) P w K mg base N_block_of "block_of" (defScope s_block_of) (f 2) cdv A outer s H E) rfl
  have tk := takes_of (X := cxOf (L2.CX P w) P w K mg base N_block_of "block_of" (defScope s_block_of) (f 2) cdv A outer s H E) (E := E) rfl rfl rfl rfl
  have px := fun σ => passAt tk σ
  exact (dss_cons (O1 := [0, 0, 0, 0, 0]) (ds_setT (k := 0) (n := 0) (asg_name (de_fdiv (de_var (i := 2) (pv 2)) de_int) sc_block_of.nd rfl (Or.inl rfl)) (by decide) (Or.inl rfl))
    (dss_cons (O1 := [0, 0, 0, 0, 0]) (ds_setT (k := 0) (n := 0) (asg_name (de_le (de_var (i := 0) (pv 0)) (de_var (i := 3) (pv 3))) sc_block_of.nd rfl (Or.inl rfl)) (by decide) (Or.inl rfl))
    (dss_cons (O1 := [0, 0, 0, 0, 0]) (ds_if (O' := [0, 0, 0, 0, 0]) (DW.dt (dw_and (dt_eq (de_var (i := 1) (pv 1)) (de_var (i := 3) (pv 3)) (hu64 hr)) (dw_and1 (DW.dt (dw_or (dt_eq (de_var (i := 0) (pv 0)) (de_var (i := 3) (pv 3)) (hu64 hr)) (dw_or1 (dt_eq (de_var (i := 0) (pv 0)) (de_add (by decide) (de_var (i := 3) (pv 3)) de_int) (hu64 hr)))))))) (dss_one (ds_setT (k := 0) (n := 0) (asg_name (de_eq (de_var (i := 0) (pv 0)) (de_add (by decide) (de_var (i := 3) (pv 3)) de_int) (hu64 hr)) sc_block_of.nd rfl (Or.inl rfl)) (by decide) (Or.inl rfl))) dss_nil)
    (dss_cons (O1 := [0, 0, 0, 0, 0]) (ds_if (O' := [0, 0, 0, 0, 0]) (dt_val (de_var (i := 4) (pv 4))) (dss_one (ds_ret (de_lst (da_cons de_int (da_cons de_int (da_cons de_int (da_cons de_int da_nil))))))) dss_nil)
    (dss_cons (O1 := [0, 0, 0, 0, 0]) (ds_if (O' := [0, 0, 0, 0, 0]) (dt_le (de_var (i := 0) (pv 0)) (de_add (by decide) (de_var (i := 3) (pv 3)) de_int)) (dss_one (ds_ret (de_lst (da_cons de_int (da_cons de_int (da_cons de_int (da_cons de_int da_nil))))))) dss_nil)
    (dss_one (ds_ret (de_lst (da_cons de_int (da_cons de_int (da_cons de_int (da_cons de_int da_nil))))))))))))
theorem oe_block_of (T : Txt K mg C f fd u) : FnOk P w K mg base (L2.CX P w) (0 + 1) (f 2) (fd 2) ["r", "c", "half"] (spD K (cmOf C) (["r", "c", "half"] : List Str).length 1 (runF N_block_of.length b_block_of)) :=
  okD (O := [0, 0, 0, 0, 0]) (O' := [0, 0, 0, 0, 0]) T.F_block_of sc_block_of (by rfl) (od_block_of T)
theorem ok_block_of (T : Txt K mg C f fd u) : FnOk P w K mg base (L2.CX P w) 1 (f 2) (fd 2) ["r", "c", "half"] (spD K (cmOf C) 3 1 m_block_of) := oe_block_of T
theorem od_twofold_board (T : Txt K mg C f fd u) (cdv : Value) (A : Around) (outer : List PySem.Env) (s : Shared) (H : Hp) (E : XK) (hr : Room 1 (A.deeper (envOfC "twofold_board" (defScope s_twofold_board) s.heap.objs.size (f 3) cdv))) :
    DSs (cxOf (L2.CX P w) P w K mg base N_twofold_board "twofold_board" (defScope s_twofold_board) (f 3) cdv A outer s H E) (cmOf C) (fun cls d _ H => E cls d H) 2 [0, 0, 0, 0, 0, 0, 0, 0] [0, 0, 0, 0, 0, 0, 0, 0] (defBody s_twofold_board) b_twofold_board := by
  have hp := passes_of (X := cxOf (L2.CX P w) P w K mg base N_twofold_board "twofold_board" (defScope s_twofold_board) (f 3) cdv A outer s H E) rfl
  have tk := takes_of (X := cxOf (L2.CX P w) P w K mg base N_twofold_board "twofold_board" (defScope s_twofold_board) (f 3) cdv A outer s H E) (E := E) rfl rfl rfl rfl
  have px := fun σ => passAt tk σ
  exact (dss_cons (O1 := [0, 0, 0, 0, 0, 0, 0, 0]) (ds_setT (k := 0) (n := 0) (asg_name (de_fdiv (de_var (i := 0) (pv 0)) de_int) sc_twofold_board.nd rfl (Or.inl rfl)) (by decide) (Or.inl rfl))
    (dss_cons (O1 := [0, 0, 0, 0, 0, 0, 0, 0]) (ds_setT (k := 2) (n := 0) (asg_name (de_fnN (ok_odd_board T) (hr.mono (by decide)) T.g_odd_board T.F_odd_board.kp T.b_odd_board (da_cons (de_var (i := 1) (pv 1)) da_nil)) sc_twofold_board.nd rfl (Or.inl rfl)) (by decide) (Or.inl rfl))
    (dss_cons (O1 := [0, 0, 0, 2, 0, 0, 0, 0]) (ds_setT (k := 2) (n := 2) (asg_lc rfl sc_twofold_board.nd rfl rfl (sw_true rfl rfl rfl (by decide +kernel)) (di_rg1 (i := 6) T.n_range (de_var (i := 0) (pv 0))) (blkOk_by (N := N_twofold_board) (sc := (defScope s_twofold_board)) (own := [("k", 6)]) (by decide +kernel)) (by rfl) (fun _ _ _ _ _ => (pg_name (i := 6) sc_twofold_board.nd rfl (Or.inl rfl))) (fun _ _ _ _ _ => dts_nil) (fun _ _ _ _ _ => (de_mul (by decide) (de_zero (n := 1) (de_lst (da_cons de_int da_nil))) (de_var (i := 0) (pv 0))))) (by decide) (Or.inr (by decide)))
    (dss_cons (O1 := [0, 0, 0, 2, 0, 0, 0, 0]) (ds_for hp rfl (di_rg1 (i := 4) T.n_range (de_var (i := 1) (pv 1))) (pg_name (i := 4) sc_twofold_board.nd rfl (Or.inl rfl))
    (dss_one (ds_for hp rfl (di_rg1 (i := 5) T.n_range (de_var (i := 1) (pv 1))) (pg_name (i := 5) sc_twofold_board.nd rfl (Or.inl rfl))
    (dss_cons (O1 := [0, 0, 0, 2, 0, 0, 0, 0]) (ds_setT (k := 1) (n := 0) (asg_name (de_fnN (ok_block_of T) (hr.mono (by decide)) T.g_block_of T.F_block_of.kp T.b_block_of (da_cons (de_var (i := 4) (pv 4)) (da_cons (de_var (i := 5) (pv 5)) (da_cons (de_var (i := 1) (pv 1)) da_nil)))) sc_twofold_board.nd rfl (Or.inl rfl)) (by decide) (Or.inl rfl))
    (dss_one (ds_for hp rfl (di_rg1 (i := 6) T.n_range de_int) (pg_name (i := 6) sc_twofold_board.nd rfl (Or.inl rfl))
    (dss_one (ds_set2 (i := 3) (n := 0) rfl (de_add (by decide) (de_mul (by decide) de_int (de_sub (de_ix (de_ix (de_var (i := 2) (pv 2)) (de_var (i := 4) (pv 4))) (de_var (i := 5) (pv 5))) de_int)) (de_ix (de_var (i := 7) (pv 7)) (de_var (i := 6) (pv 6)))) (by exact pg_sub (pe_ix ix_seq (pv 3) (de_add (by decide) (de_mul (by decide) de_int (de_var (i := 4) (pv 4))) (de_fdiv (de_var (i := 6) (pv 6)) de_int)) (fun _ _ => rfl)) (de_add (by decide) (de_mul (by decide) de_int (de_var (i := 5) (pv 5))) (de_mod (de_var (i := 6) (pv 6)) de_int)) set_list)))))))))
    (dss_one (ds_move (i := 3) (by exact pv 3)))))))
theorem oe_twofold_board (T : Txt K mg C f fd u) : FnOk P w K mg base (L2.CX P w) (1 + 1) (f 3) (fd 3) ["size"] (spD K (cmOf C) (["size"] : List Str).length 2 (runF N_twofold_board.length b_twofold_board)) :=
  okD (O := [0, 0, 0, 0, 0, 0, 0, 0]) (O' := [0, 0, 0, 0, 0, 0, 0, 0]) T.F_twofold_board sc_twofold_board (by rfl) (od_twofold_board T)
theorem ok_twofold_board (T : Txt K mg C f fd u) : FnOk P w K mg base (L2.CX P w) 2 (f 3) (fd 3) ["size"] (spD K (cmOf C) 1 2 m_twofold_board) := oe_twofold_board T
theorem od_laid (T : Txt K mg C f fd u) (cdv : Value) (A : Around) (outer : List PySem.Env) (s : Shared) (H : Hp) (E : XK) (hr : Room 2 (A.deeper (envOfC "laid" (defScope s_laid) s.heap.objs.size (f 4) cdv))) :
    DSs (cxOf (L2.CX P w) P w K mg base N_laid "laid" (defScope s_laid) (f 4) cdv A outer s H E) (cmOf C) (fun cls d _ H => E cls d H) 2 [0] [0] (defBody s_laid) b_laid := by
  have hp := passes_of (X := cxOf (L2.CX P w) P w K mg base N_laid "laid" (defScope s_laid) (f 4) cdv A outer s H E) rfl
  have tk := takes_of (X := cxOf (L2.CX P w) P w K mg base N_laid "laid" (defScope s_laid) (f 4) cdv A outer s H E) (E := E) rfl rfl rfl rfl
  have px := fun σ => passAt tk σ
  exact (dss_cons (O1 := [0]) (ds_if (O' := [0]) (DW.dt (dw_or (dt_not (dt_chain de_int (de_var (i := 0) (pv 0)) de_int)) (dw_or1 (dt_eq (de_var (i := 0) (pv 0)) de_int (hu64 hr))))) (dss_one (ds_raise rfl tk (pmk_own PySem.F.excBase_ValueError T.x_NoSize T.c_NoSize T.kc_NoSize (raises_own T.bc_NoSize T.tc_NoSize) rfl) rfl)) dss_nil)
    (dss_cons (O1 := [0]) (ds_if (O' := [0]) (dt_eq (de_mod (de_var (i := 0) (pv 0)) de_int) de_int (hu64 hr)) (dss_one (ds_ret (de_fnN (ok_odd_board T) (hr.mono (by decide)) T.g_odd_board T.F_odd_board.kp T.b_odd_board (da_cons (de_var (i := 0) (pv 0)) da_nil)))) dss_nil)
    (dss_cons (O1 := [0]) (ds_if (O' := [0]) (dt_eq (de_mod (de_var (i := 0) (pv 0)) de_int) de_int (hu64 hr)) (dss_one (ds_ret (de_fnN (ok_fourfold_board T) (hr.mono (by decide)) T.g_fourfold_board T.F_fourfold_board.kp T.b_fourfold_board (da_cons (de_var (i := 0) (pv 0)) da_nil)))) dss_nil)
    (dss_one (ds_ret (de_fnN (ok_twofold_board T) (hr.mono (by decide)) T.g_twofold_board T.F_twofold_board.kp T.b_twofold_board (da_cons (de_var (i := 0) (pv 0)) da_nil)))))))
theorem oe_laid (T : Txt K mg C f fd u) : FnOk P w K mg base (L2.CX P w) (2 + 1) (f 4) (fd 4) ["size"] (spD K (cmOf C) (["size"] : List Str).length 2 (runF N_laid.length b_laid)) :=
  okD (O := [0]) (O' := [0]) T.F_laid sc_laid (by rfl) (od_laid T)
theorem ok_laid (T : Txt K mg C f fd u) : FnOk P w K mg base (L2.CX P w) 3 (f 4) (fd 4) ["size"] (spD K (cmOf C) 1 2 m_laid) := oe_laid T
theorem od__law_cell_at (T : Txt K mg C f fd u) (cdv : Value) (A : Around) (outer : List PySem.Env) (s : Shared) (H : Hp) (E : XK) (hr : Room 0 (A.deeper (envOfC "_law_cell_at" (defScope s__law_cell_at) s.heap.objs.size (f 5) cdv))) :
    DSs (cxOf (L2.CX P w) P w K mg base N__law_cell_at "_law_cell_at" (defScope s__law_cell_at) (f 5) cdv A outer s H E) (cmOf C) (fun cls d _ H => E cls d H) 0 [0, 0] [0, 0] (defBody s__law_cell_at) b__law_cell_at := by
  have hp := passes_of (X := cxOf (L2.CX P w) P w K mg base N__law_cell_at "_law_cell_at" (defScope s__law_cell_at) (f 5) cdv A outer s H E) rfl
  have tk := takes_of (X := cxOf (L2.CX P w) P w K mg base N__law_cell_at "_law_cell_at" (defScope s__law_cell_at) (f 5) cdv A outer s H E) (E := E) rfl rfl rfl rfl
  have px := fun σ => passAt tk σ
  exact (dss_cons (O1 := [0, 0]) (ds_if (O' := [0, 0]) (dt_lt (de_var (i := 1) (pv 1)) (de_len T.n_len (de_var (i := 0) (pv 0)))) (dss_one (ds_ret (de_ix (de_var (i := 0) (pv 0)) (de_var (i := 1) (pv 1))))) dss_nil)
    (dss_one (ds_ret de_int)))
theorem oe__law_cell_at (T : Txt K mg C f fd u) : FnOk P w K mg base (L2.CX P w) (0 + 1) (f 5) (fd 5) ["script", "k"] (spD K (cmOf C) (["script", "k"] : List Str).length 0 (runF N__law_cell_at.length b__law_cell_at)) :=
  okD (O := [0, 0]) (O' := [0, 0]) T.F__law_cell_at sc__law_cell_at (by rfl) (od__law_cell_at T)
theorem ok__law_cell_at (T : Txt K mg C f fd u) : FnOk P w K mg base (L2.CX P w) 1 (f 5) (fd 5) ["script", "k"] (spD K (cmOf C) 2 0 m__law_cell_at) := oe__law_cell_at T
theorem od__law_whole (T : Txt K mg C f fd u) (cdv : Value) (A : Around) (outer : List PySem.Env) (s : Shared) (H : Hp) (E : XK) (hr : Room 0 (A.deeper (envOfC "_law_whole" (defScope s__law_whole) s.heap.objs.size (f 6) cdv))) :
    DSs (cxOf (L2.CX P w) P w K mg base N__law_whole "_law_whole" (defScope s__law_whole) (f 6) cdv A outer s H E) (cmOf C) (fun cls d _ H => E cls d H) 0 [0] [0] (defBody s__law_whole) b__law_whole := by
  have hp := passes_of (X := cxOf (L2.CX P w) P w K mg base N__law_whole "_law_whole" (defScope s__law_whole) (f 6) cdv A outer s H E) rfl
  have tk := takes_of (X := cxOf (L2.CX P w) P w K mg base N__law_whole "_law_whole" (defScope s__law_whole) (f 6) cdv A outer s H E) (E := E) rfl rfl rfl rfl
  have px := fun σ => passAt tk σ
  exact (dss_one (ds_ret (de_and (de_isi T.n_isinstance T.n_int PyProof.Rows.boot_int (de_var (i := 0) (pv 0))) (de_one (de_not (de_isi T.n_isinstance T.n_bool PyProof.Rows.boot_bool (de_var (i := 0) (pv 0))))))))
theorem oe__law_whole (T : Txt K mg C f fd u) : FnOk P w K mg base (L2.CX P w) (0 + 1) (f 6) (fd 6) ["found"] (spD K (cmOf C) (["found"] : List Str).length 0 (runF N__law_whole.length b__law_whole)) :=
  okD (O := [0]) (O' := [0]) T.F__law_whole sc__law_whole (by rfl) (od__law_whole T)
theorem ok__law_whole (T : Txt K mg C f fd u) : FnOk P w K mg base (L2.CX P w) 1 (f 6) (fd 6) ["found"] (spD K (cmOf C) 1 0 m__law_whole) := oe__law_whole T
theorem od__law_flat (T : Txt K mg C f fd u) (cdv : Value) (A : Around) (outer : List PySem.Env) (s : Shared) (H : Hp) (E : XK) (hr : Room 0 (A.deeper (envOfC "_law_flat" (defScope s__law_flat) s.heap.objs.size (f 7) cdv))) :
    DSs (cxOf (L2.CX P w) P w K mg base N__law_flat "_law_flat" (defScope s__law_flat) (f 7) cdv A outer s H E) (cmOf C) (fun cls d _ H => E cls d H) 1 [0, 0, 0] [0, 0, 0] (defBody s__law_flat) b__law_flat := by
  have hp := passes_of (X := cxOf (L2.CX P w) P w K mg base N__law_flat "_law_flat" (defScope s__law_flat) (f 7) cdv A outer s H E) rfl
  have tk := takes_of (X := cxOf (L2.CX P w) P w K mg base N__law_flat "_law_flat" (defScope s__law_flat) (f 7) cdv A outer s H E) (E := E) rfl rfl rfl rfl
  have px := fun σ => passAt tk σ
  exact (dss_cons (O1 := [0, 1, 0]) (ds_setT (k := 1) (n := 1) (asg_name (de_lst da_nil) sc__law_flat.nd rfl (Or.inl rfl)) (by decide) (Or.inr (by decide)))
    (dss_cons (O1 := [0, 1, 0]) (ds_for hp rfl (di_list (i := 2) (de_var (i := 0) (pv 0))) (pg_name (i := 2) sc__law_flat.nd rfl (Or.inl rfl))
    (dss_one (ds_extP (i := 1) (n := 0) rfl rfl (by exact pe_bm PySem.F.plainAttrs_list PySem.F.slot_list_extend PySem.F.type_list_extend mt_extend (pv 1) (pa_cons (de_var (i := 2) (pv 2)) pa_nil)))))
    (dss_one (ds_move (i := 1) (by exact pv 1)))))
theorem oe__law_flat (T : Txt K mg C f fd u) : FnOk P w K mg base (L2.CX P w) (0 + 1) (f 7) (fd 7) ["board"] (spD K (cmOf C) (["board"] : List Str).length 1 (runF N__law_flat.length b__law_flat)) :=
  okD (O := [0, 0, 0]) (O' := [0, 0, 0]) T.F__law_flat sc__law_flat (by rfl) (od__law_flat T)
theorem ok__law_flat (T : Txt K mg C f fd u) : FnOk P w K mg base (L2.CX P w) 1 (f 7) (fd 7) ["board"] (spD K (cmOf C) 1 1 m__law_flat) := oe__law_flat T
theorem od__law_sums (T : Txt K mg C f fd u) (cdv : Value) (A : Around) (outer : List PySem.Env) (s : Shared) (H : Hp) (E : XK) (hr : Room 0 (A.deeper (envOfC "_law_sums" (defScope s__law_sums) s.heap.objs.size (f 8) cdv))) :
    DSs (cxOf (L2.CX P w) P w K mg base N__law_sums "_law_sums" (defScope s__law_sums) (f 8) cdv A outer s H E) (cmOf C) (fun cls d _ H => E cls d H) 0 [0, 0, 0, 0, 0, 0, 0] [0, 0, 0, 0, 0, 0, 0] (defBody s__law_sums) b__law_sums := by
  have hp := passes_of (X := cxOf (L2.CX P w) P w K mg base N__law_sums "_law_sums" (defScope s__law_sums) (f 8) cdv A outer s H E) rfl
  have tk := takes_of (X := cxOf (L2.CX P w) P w K mg base N__law_sums "_law_sums" (defScope s__law_sums) (f 8) cdv A outer s H E) (E := E) rfl rfl rfl rfl
  have px := fun σ => passAt tk σ
  exact (dss_cons (O1 := [0, 0, 0, 0, 0, 0, 0]) (ds_setT (k := 0) (n := 0) (asg_name (de_len T.n_len (de_var (i := 0) (pv 0))) sc__law_sums.nd rfl (Or.inl rfl)) (by decide) (Or.inl rfl))
    (dss_cons (O1 := [0, 0, 1, 0, 0, 0, 0]) (ds_setT (k := 1) (n := 1) (asg_name (de_mul (by decide) (de_zero (n := 1) (de_lst (da_cons de_int da_nil))) (de_var (i := 1) (pv 1))) sc__law_sums.nd rfl (Or.inl rfl)) (by decide) (Or.inr (by decide)))
    (dss_cons (O1 := [0, 0, 1, 1, 0, 0, 0]) (ds_setT (k := 1) (n := 1) (asg_name (de_lst (da_cons de_int (da_cons de_int da_nil))) sc__law_sums.nd rfl (Or.inl rfl)) (by decide) (Or.inr (by decide)))
    (dss_cons (O1 := [0, 0, 1, 1, 0, 0, 0]) (ds_for hp rfl (di_rg1 (i := 4) T.n_range (de_var (i := 1) (pv 1))) (pg_name (i := 4) sc__law_sums.nd rfl (Or.inl rfl))
    (dss_one (ds_for hp rfl (di_rg1 (i := 5) T.n_range (de_var (i := 1) (pv 1))) (pg_name (i := 5) sc__law_sums.nd rfl (Or.inl rfl))
    (dss_cons (O1 := [0, 0, 1, 1, 0, 0, 0]) (ds_setI (i := 2) (n := 0) (k := 0) rfl (by decide) (de_add (by decide) (de_ix (de_var (i := 2) (pv 2)) (de_var (i := 5) (pv 5))) (de_ix (de_ix (de_var (i := 0) (pv 0)) (de_var (i := 4) (pv 4))) (de_var (i := 5) (pv 5)))) (by exact pg_sub (pv 2) (de_var (i := 5) (pv 5)) set_list))
    (dss_cons (O1 := [0, 0, 1, 1, 0, 0, 0]) (ds_setI (i := 3) (n := 0) (k := 0) rfl (by decide) (de_add (by decide) (de_ix (de_var (i := 3) (pv 3)) de_int) (de_mul (by decide) (de_ix (de_ix (de_var (i := 0) (pv 0)) (de_var (i := 4) (pv 4))) (de_var (i := 5) (pv 5))) (de_toint T.n_int (de_eq (de_var (i := 4) (pv 4)) (de_var (i := 5) (pv 5)) (hu64 hr))))) (by exact pg_sub (pv 3) de_int set_list))
    (dss_one (ds_setI (i := 3) (n := 0) (k := 0) rfl (by decide) (de_add (by decide) (de_ix (de_var (i := 3) (pv 3)) de_int) (de_mul (by decide) (de_ix (de_ix (de_var (i := 0) (pv 0)) (de_var (i := 4) (pv 4))) (de_var (i := 5) (pv 5))) (de_toint T.n_int (de_eq (de_add (by decide) (de_var (i := 4) (pv 4)) (de_var (i := 5) (pv 5))) (de_sub (de_var (i := 1) (pv 1)) de_int) (hu64 hr))))) (by exact pg_sub (pv 3) de_int set_list))))))))
    (dss_one (ds_ret (de_zero (n := 1) (de_tup (da_cons (de_zero (n := 1) (de_lc rfl sc__law_sums.nd (di_list (i := 6) (de_var (i := 0) (pv 0))) (blkOk_by (N := N__law_sums) (sc := (defScope s__law_sums)) (own := [("row", 6)]) (by decide +kernel)) (by rfl) (fun _ _ _ _ _ => (pg_name (i := 6) sc__law_sums.nd rfl (Or.inl rfl))) (fun _ _ _ _ _ => dts_nil) (fun _ _ _ _ _ => (de_sum rfl T.n_sum (de_var (i := 6) (pv 6)))))) (da_cons (de_var (i := 2) (pv 2)) (da_cons (de_var (i := 3) (pv 3)) da_nil)))))))))))
theorem oe__law_sums (T : Txt K mg C f fd u) : FnOk P w K mg base (L2.CX P w) (0 + 1) (f 8) (fd 8) ["board"] (spD K (cmOf C) (["board"] : List Str).length 0 (runF N__law_sums.length b__law_sums)) :=
  okD (O := [0, 0, 0, 0, 0, 0, 0]) (O' := [0, 0, 0, 0, 0, 0, 0]) T.F__law_sums sc__law_sums (by rfl) (od__law_sums T)
theorem ok__law_sums (T : Txt K mg C f fd u) : FnOk P w K mg base (L2.CX P w) 1 (f 8) (fd 8) ["board"] (spD K (cmOf C) 1 0 m__law_sums) := oe__law_sums T
theorem od__law_like (T : Txt K mg C f fd u) (cdv : Value) (A : Around) (outer : List PySem.Env) (s : Shared) (H : Hp) (E : XK) (hr : Room 1 (A.deeper (envOfC "_law_like" (defScope s__law_like) s.heap.objs.size (f 9) cdv))) :
    DSs (cxOf (L2.CX P w) P w K mg base N__law_like "_law_like" (defScope s__law_like) (f 9) cdv A outer s H E) (cmOf C) (fun cls d _ H => E cls d H) 0 [0, 0, 0, 0, 0] [0, 0, 0, 0, 0] (defBody s__law_like) b__law_like := by
  have hp := passes_of (X := cxOf (L2.CX P w) P w K mg base N__law_like "_law_like" (defScope s__law_like) (f 9) cdv A outer s H E) rfl
  have tk := takes_of (X := cxOf (L2.CX P w) P w K mg base N__law_like "_law_like" (defScope s__law_like) (f 9) cdv A outer s H E) (E := E) rfl rfl rfl rfl
  have px := fun σ => passAt tk σ
  exact (dss_cons (O1 := [0, 0, 0, 0, 0]) (ds_unp3 (i := 2) (j := 3) (l := 4) (de_fnN (ok__law_sums T) (hr.mono (by decide)) T.g__law_sums T.F__law_sums.kp T.b__law_sums (da_cons (de_var (i := 0) (pv 0)) da_nil)) (pg_tup rfl (pgs_cons (pg_name (i := 2) sc__law_like.nd rfl (Or.inl rfl)) (pgs_cons (pg_name (i := 3) sc__law_like.nd rfl (Or.inl rfl)) (pgs_cons (pg_name (i := 4) sc__law_like.nd rfl (Or.inl rfl)) pgs_nil)))))
    (dss_cons (O1 := [0, 0, 0, 0, 0]) (ds_setT (k := 0) (n := 0) (asg_name (de_fdiv (de_mul (by decide) (de_len T.n_len (de_var (i := 0) (pv 0))) (de_add (by decide) (de_mul (by decide) (de_len T.n_len (de_var (i := 0) (pv 0))) (de_len T.n_len (de_var (i := 0) (pv 0)))) de_int)) de_int) sc__law_like.nd rfl (Or.inl rfl)) (by decide) (Or.inl rfl))
    (dss_one (ds_ret (de_eq (de_sortedSet (by decide) rfl T.n_sorted T.n_set (de_add (by decide) (de_add (by decide) (de_var (i := 2) (pv 2)) (de_var (i := 3) (pv 3))) (de_var (i := 4) (pv 4)))) (de_zero (n := 1) (de_lst (da_cons (de_var (i := 1) (pv 1)) da_nil))) (hu64 hr))))))
theorem oe__law_like (T : Txt K mg C f fd u) : FnOk P w K mg base (L2.CX P w) (1 + 1) (f 9) (fd 9) ["board"] (spD K (cmOf C) (["board"] : List Str).length 0 (runF N__law_like.length b__law_like)) :=
  okD (O := [0, 0, 0, 0, 0]) (O' := [0, 0, 0, 0, 0]) T.F__law_like sc__law_like (by rfl) (od__law_like T)
theorem ok__law_like (T : Txt K mg C f fd u) : FnOk P w K mg base (L2.CX P w) 2 (f 9) (fd 9) ["board"] (spD K (cmOf C) 1 0 m__law_like) := oe__law_like T
theorem od__law_met (T : Txt K mg C f fd u) (cdv : Value) (A : Around) (outer : List PySem.Env) (s : Shared) (H : Hp) (E : XK) (hr : Room 3 (A.deeper (envOfC "_law_met" (defScope s__law_met) s.heap.objs.size (f 10) cdv))) :
    DSs (cxOf (L2.CX P w) P w K mg base N__law_met "_law_met" (defScope s__law_met) (f 10) cdv A outer s H E) (cmOf C) (fun cls d _ H => E cls d H) 2 [0, 0] [0, 0] (defBody s__law_met) b__law_met := by
  have hp := passes_of (X := cxOf (L2.CX P w) P w K mg base N__law_met "_law_met" (defScope s__law_met) (f 10) cdv A outer s H E) rfl
  have tk := takes_of (X := cxOf (L2.CX P w) P w K mg base N__law_met "_law_met" (defScope s__law_met) (f 10) cdv A outer s H E) (E := E) rfl rfl rfl rfl
  have px := fun σ => passAt tk σ
  exact (dss_one (ds_try (i := 1) (dom := [2]) (O' := [0, 0]) [(.ref (C 2), [2], (.bl true))] rfl rfl sc__law_met.nd rfl rfl tk (fun W1 pn1 xe1 tk hp => by
    have px := fun σ => passAt tk σ
    exact (dss_one (ds_ret (de_fn (ok_laid T) (hr.mono (by decide)) T.g_laid T.F_laid.kp T.b_laid px (da_cons (de_var (i := 0) (pv 0)) da_nil)))))
    (.cons ⟨rfl, by decide, .inl T.c_NoSize⟩ (hs_ret (cs := [2]) (d := (.bl true)) rfl (by intro c hc; rw [List.mem_singleton] at hc; subst hc; exact ⟨_, rfl, fun a oe pn hz hf => (hd_and (hd_isi T.xc_NoSize hz hf T.n_isinstance (by exact pv 1) T.c_SumError T.ks_NoSize_SumError) (hd_isiT T.xc_NoSize hz hf T.n_isinstance (by exact pv 1) T.n_ValueError (by decide +kernel) T.kv_NoSize))⟩)) .nil) (by intro q hq c hc; simp only [List.mem_cons, List.not_mem_nil, or_false] at hq hc; rcases hq with rfl <;> rcases hc with rfl <;> first | exact T.em_NoSize_NoSize | exact T.em_NoSize_SumError)))
theorem oe__law_met (T : Txt K mg C f fd u) : FnOk P w K mg base (L2.CX P w) (3 + 1) (f 10) (fd 10) ["size"] (spD K (cmOf C) (["size"] : List Str).length 2 (runF N__law_met.length b__law_met)) :=
  okD (O := [0, 0]) (O' := [0, 0]) T.F__law_met sc__law_met (by rfl) (od__law_met T)
theorem ok__law_met (T : Txt K mg C f fd u) : FnOk P w K mg base (L2.CX P w) 4 (f 10) (fd 10) ["size"] (spD K (cmOf C) 1 2 m__law_met) := oe__law_met T
theorem od_law (T : Txt K mg C f fd u) (cdv : Value) (A : Around) (outer : List PySem.Env) (s : Shared) (H : Hp) (E : XK) (hr : Room 4 (A.deeper (envOfC "law" (defScope s_law) s.heap.objs.size (f 11) cdv))) :
    DSs (cxOf (L2.CX P w) P w K mg base N_law "law" (defScope s_law) (f 11) cdv A outer s H E) (cmOf C) (fun cls d _ H => E cls d H) 0 [0, 0, 0, 0, 0, 0, 0, 0, 0] [0, 0, 0, 0, 0, 0, 0, 0, 0] (defBody s_law) b_law := by
  have hp := passes_of (X := cxOf (L2.CX P w) P w K mg base N_law "law" (defScope s_law) (f 11) cdv A outer s H E) rfl
  have tk := takes_of (X := cxOf (L2.CX P w) P w K mg base N_law "law" (defScope s_law) (f 11) cdv A outer s H E) (E := E) rfl rfl rfl rfl
  have px := fun σ => passAt tk σ
  exact (dss_cons (O1 := [0, 0, 0, 0, 0, 0, 0, 0, 0]) (ds_setT (k := 0) (n := 0) (asg_name (de_fnN (ok__law_cell_at T) (hr.mono (by decide)) T.g__law_cell_at T.F__law_cell_at.kp T.b__law_cell_at (da_cons (de_var (i := 0) (pv 0)) (da_cons de_int da_nil))) sc_law.nd rfl (Or.inl rfl)) (by decide) (Or.inl rfl))
    (dss_cons (O1 := [0, 0, 0, 0, 0, 0, 0, 0, 0]) (ds_setT (k := 0) (n := 0) (asg_name (de_add (by decide) de_int (de_mod (de_var (i := 1) (pv 1)) de_int)) sc_law.nd rfl (Or.inr rfl)) (by decide) (Or.inl rfl))
    (dss_cons (O1 := [0, 0, 0, 0, 0, 0, 0, 0, 0]) (ds_if (O' := [0, 0, 0, 0, 0, 0, 0, 0, 0]) (dt_eq (de_mod (de_fdiv (de_var (i := 1) (pv 1)) de_int) de_int) de_int (hu64 hr)) (dss_one (ds_setT (k := 0) (n := 0) (asg_name (de_ix (de_zero (n := 1) (de_lst (da_cons de_int (da_cons de_int (da_cons de_int (da_cons (de_neg de_int) (da_cons de_int (da_cons (de_pow de_int de_int) (da_cons (de_neg (de_pow de_int de_int)) da_nil))))))))) (de_mod (de_fdiv (de_var (i := 1) (pv 1)) de_int) de_int)) sc_law.nd rfl (Or.inr rfl)) (by decide) (Or.inl rfl))) dss_nil)
    (dss_cons (O1 := [0, 0, 0, 0, 0, 0, 0, 0, 0]) (ds_for hp rfl (di_rg1 (i := 3) T.n_range de_int) (pg_name (i := 3) sc_law.nd rfl (Or.inl rfl))
    (dss_post [0, 0, 0, 0, 2, 0, 0, 0, 0] (dss_cons (O1 := [0, 0, 0, 0, 2, 0, 0, 0, 0]) (ds_setT (k := 2) (n := 2) (asg_name (de_fnN (ok__law_met T) (hr.mono (by decide)) T.g__law_met T.F__law_met.kp T.b__law_met (da_cons (de_var (i := 2) (pv 2)) da_nil)) sc_law.nd rfl (Or.inl rfl)) (by decide) (Or.inr (by decide)))
    (dss_one (ds_if (O' := [0, 0, 0, 0, 2, 0, 0, 0, 0]) (DW.dt (dw_or (dt_lt (de_var (i := 2) (pv 2)) de_int) (dw_or (dt_gt (de_var (i := 2) (pv 2)) de_int) (dw_or1 (dt_eq (de_var (i := 2) (pv 2)) de_int (hu64 hr)))))) (dss_one (ds_if (O' := [0, 0, 0, 0, 2, 0, 0, 0, 0]) (dt_notB (de_var (i := 4) (pv 4)) de_bl) (dss_one (ds_ret de_bl)) dss_nil)) (dss_cons (O1 := [0, 0, 0, 0, 2, 0, 0, 0, 0]) (ds_if (O' := [0, 0, 0, 0, 2, 0, 0, 0, 0]) (DW.dt (dw_or (dt_not (dt_val (de_isi T.n_isinstance T.n_list PyProof.Rows.boot_list (de_var (i := 4) (pv 4))))) (dw_or1 (dt_ne (de_len T.n_len (de_var (i := 4) (pv 4))) (de_var (i := 2) (pv 2)) (hu64 hr))))) (dss_one (ds_ret de_bl)) dss_nil)
    (dss_cons (O1 := [0, 0, 0, 0, 2, 0, 0, 0, 0]) (ds_if (O' := [0, 0, 0, 0, 2, 0, 0, 0, 0]) (dt_not (dt_val (de_all rfl T.n_all (de_zero (n := 1) (de_lc rfl sc_law.nd (di_list (i := 6) (de_var (i := 4) (pv 4))) (blkOk_by (N := N_law) (sc := (defScope s_law)) (own := [("row", 6)]) (by decide +kernel)) (by rfl) (fun _ _ _ _ _ => (pg_name (i := 6) sc_law.nd rfl (Or.inl rfl))) (fun _ _ _ _ _ => dts_nil) (fun _ _ _ _ _ => (de_and (de_isi T.n_isinstance T.n_list PyProof.Rows.boot_list (de_var (i := 6) (pv 6))) (de_one (de_eq (de_len T.n_len (de_var (i := 6) (pv 6))) (de_var (i := 2) (pv 2)) (hu64 hr)))))))))) (dss_one (ds_ret de_bl)) dss_nil)
    (dss_cons (O1 := [0, 0, 0, 0, 2, 0, 0, 0, 0]) (ds_setT (k := 1) (n := 0) (asg_name (de_fnN (ok__law_flat T) (hr.mono (by decide)) T.g__law_flat T.F__law_flat.kp T.b__law_flat (da_cons (de_var (i := 4) (pv 4)) da_nil)) sc_law.nd rfl (Or.inl rfl)) (by decide) (Or.inl rfl))
    (dss_cons (O1 := [0, 0, 0, 0, 2, 0, 0, 0, 0]) (ds_if (O' := [0, 0, 0, 0, 2, 0, 0, 0, 0]) (DW.dt (dw_or (dt_not (dt_val (de_all rfl T.n_all (de_zero (n := 1) (de_lc rfl sc_law.nd (di_list (i := 8) (de_var (i := 5) (pv 5))) (blkOk_by (N := N_law) (sc := (defScope s_law)) (own := [("x", 8)]) (by decide +kernel)) (by rfl) (fun _ _ _ _ _ => (pg_name (i := 8) sc_law.nd rfl (Or.inl rfl))) (fun _ _ _ _ _ => dts_nil) (fun _ _ _ _ _ => (de_fnN (ok__law_whole T) (hr.mono (by decide)) T.g__law_whole T.F__law_whole.kp T.b__law_whole (da_cons (de_var (i := 8) (pv 8)) da_nil)))))))) (dw_or1 (dt_ne (de_sorted (by decide) T.n_sorted (de_var (i := 5) (pv 5))) (de_zero (n := 1) (de_lc rfl sc_law.nd (di_rg1 (i := 7) T.n_range (de_mul (by decide) (de_var (i := 2) (pv 2)) (de_var (i := 2) (pv 2)))) (blkOk_by (N := N_law) (sc := (defScope s_law)) (own := [("k", 7)]) (by decide +kernel)) (by rfl) (fun _ _ _ _ _ => (pg_name (i := 7) sc_law.nd rfl (Or.inl rfl))) (fun _ _ _ _ _ => dts_nil) (fun _ _ _ _ _ => (de_add (by decide) (de_var (i := 7) (pv 7)) de_int)))) (hu64 hr))))) (dss_one (ds_ret de_bl)) dss_nil)
    (dss_cons (O1 := [0, 0, 0, 0, 2, 0, 0, 0, 0]) (ds_if (O' := [0, 0, 0, 0, 2, 0, 0, 0, 0]) (dt_not (dt_val (de_fnN (ok__law_like T) (hr.mono (by decide)) T.g__law_like T.F__law_like.kp T.b__law_like (da_cons (de_var (i := 4) (pv 4)) da_nil)))) (dss_one (ds_ret de_bl)) dss_nil)
    (dss_cons (O1 := [0, 0, 0, 0, 2, 0, 0, 0, 0]) (ds_clrR (i := 4) (n := 0) rfl (by exact pe_bm0 PySem.F.plainAttrs_list PySem.F.slot_list_clear PySem.F.type_list_clear mt_clear (pe_ix ix_seq (pv 4) de_int (fun _ _ => rfl))))
    (dss_one (ds_pop (i := 4) (n := 1) rfl (by exact pe_bm0 PySem.F.plainAttrs_list PySem.F.slot_list_pop PySem.F.type_list_pop mt_pop (pv 4)))))))))))))))
    (dss_one (ds_ret de_bl))))))
theorem oe_law (T : Txt K mg C f fd u) : FnOk P w K mg base (L2.CX P w) (4 + 1) (f 11) (fd 11) ["script"] (spD K (cmOf C) (["script"] : List Str).length 0 (runF N_law.length b_law)) :=
  okD (O := [0, 0, 0, 0, 0, 0, 0, 0, 0]) (O' := [0, 0, 0, 0, 0, 0, 0, 0, 0]) T.F_law sc_law (by rfl) (od_law T)
theorem ok_law (T : Txt K mg C f fd u) : FnOk P w K mg base (L2.CX P w) 5 (f 11) (fd 11) ["script"] (spD K (cmOf C) 1 0 m_law) := oe_law T
end
end DL

set_option Elab.async false
set_option linter.all false
set_option maxRecDepth 100000
set_option maxHeartbeats 4000000
namespace DL
open PySem PySem.Spec PyProof.Rows L2
/-! the law of k05 in plain Lean: its text comes to True -/
def atS (ns : List Int) (cell size : Int) : Ev := [some (.scr ns), some (.int cell), some (.int size), none, none, none, none, none, none]
def tailL : Ms := mSeq p_law_3 p_law_4
theorem mod_cases (x : Int) : x % 12 = 0 ∨ x % 12 = 1 ∨ x % 12 = 2 ∨ x % 12 = 3 ∨ x % 12 = 4 ∨ x % 12 = 5 ∨ x % 12 = 6 ∨ x % 12 = 7 ∨ x % 12 = 8 ∨ x % 12 = 9 ∨ x % 12 = 10 ∨ x % 12 = 11 := by omega
theorem mod7_cases (x : Int) : x % 7 = 0 ∨ x % 7 = 1 ∨ x % 7 = 2 ∨ x % 7 = 3 ∨ x % 7 = 4 ∨ x % 7 = 5 ∨ x % 7 = 6 := by omega
theorem tail_ok (ns : List Int) (c s : Int) (h : s ∈ ([1, 2, 3, 4, 5, 6, 7, 8, 9, 10, 11, 12, 0, 13, -3, 14, 1000000000, -1000000000] : List Int)) : tailL (atS ns c s) = .ret (.bl true) := by
  simp only [List.mem_cons, List.not_mem_nil, or_false] at h
  apply isTr_of
  rcases h with rfl | rfl | rfl | rfl | rfl | rfl | rfl | rfl | rfl | rfl | rfl | rfl | rfl | rfl | rfl | rfl | rfl | rfl <;> kernel_rfl
theorem p0 (ns : List Int) : p_law_0 (startE 9 [.scr ns]) = .nx [some (.scr ns), some (.int (ns.getD 0 0)), none, none, none, none, none, none, none] :=
  sT_nx (fn_eq (ds := [.scr ns, .int 0]) rfl rfl (cell_ok ns 0)) rfl
theorem p1 (ns : List Int) (c : Int) : p_law_1 [some (.scr ns), some (.int c), none, none, none, none, none, none, none] = .nx (atS ns c (1 + c % 12)) := rfl
theorem p2 (ns : List Int) (c s : Int) : ∃ t, p_law_2 (atS ns c s) = .nx (atS ns c t) ∧ (t = s ∨ t ∈ ([0, 2, 13, -3, 14, 1000000000, -1000000000] : List Int)) := by
  have test : mTest (mBin fEq (mBin fMod (mBin fDiv (mVar 1) (mC (.int 12))) (mC (.int 4))) (mC (.int 1))) (atS ns c s) = .ok (decide (c / 12 % 4 = 1)) :=
    test_eq ((bin_eq (x := .int (c / 12 % 4)) (y := .int 1) rfl rfl).trans (fEq_int _ _))
  by_cases h : c / 12 % 4 = 1
  · rw [decide_eq_true h] at test
    have e : p_law_2 (atS ns c s) = sT 2 0 (mBin fIx (mLst (mCons (mC (.int 0)) (mCons (mC (.int 2)) (mCons (mC (.int 13)) (mCons (mUn fNeg (mC (.int 3))) (mCons (mC (.int 14)) (mCons (mBin fPow (mC (.int 10)) (mC (.int 9))) (mCons (mUn fNeg (mBin fPow (mC (.int 10)) (mC (.int 9)))) mNil)))))))) (mBin fMod (mBin fDiv (mVar 1) (mC (.int 48))) (mC (.int 7)))) (atS ns c s) := if_t test
    rw [e]
    have ix : ∀ t : Int, fIx (.lst [.int 0, .int 2, .int 13, .int (-3), .int 14, .int 1000000000, .int (-1000000000)]) (.int (c / 48 % 7)) = .ok (.int t) → sT 2 0 (mBin fIx (mLst (mCons (mC (.int 0)) (mCons (mC (.int 2)) (mCons (mC (.int 13)) (mCons (mUn fNeg (mC (.int 3))) (mCons (mC (.int 14)) (mCons (mBin fPow (mC (.int 10)) (mC (.int 9))) (mCons (mUn fNeg (mBin fPow (mC (.int 10)) (mC (.int 9)))) mNil)))))))) (mBin fMod (mBin fDiv (mVar 1) (mC (.int 48))) (mC (.int 7)))) (atS ns c s) = .nx (atS ns c t) := fun t h =>
      sT_nx ((bin_eq (x := .lst [.int 0, .int 2, .int 13, .int (-3), .int 14, .int 1000000000, .int (-1000000000)]) (y := .int (c / 48 % 7)) rfl rfl).trans h) rfl
    rcases mod7_cases (c / 48) with q | q | q | q | q | q | q <;> rw [q] at ix
    · exact ⟨0, ix 0 rfl, .inr (by decide)⟩
    · exact ⟨2, ix 2 rfl, .inr (by decide)⟩
    · exact ⟨13, ix 13 rfl, .inr (by decide)⟩
    · exact ⟨-3, ix (-3) rfl, .inr (by decide)⟩
    · exact ⟨14, ix 14 rfl, .inr (by decide)⟩
    · exact ⟨1000000000, ix 1000000000 rfl, .inr (by decide)⟩
    · exact ⟨-1000000000, ix (-1000000000) rfl, .inr (by decide)⟩
  · rw [decide_eq_false h] at test
    exact ⟨s, (if_f test).trans rfl, .inl rfl⟩
theorem law_ok (ns : List Int) : m_law [.scr ns] = .ok (.bl true) := by
  refine run_ret ?_
  obtain ⟨t, e, h⟩ := p2 ns (ns.getD 0 0) (1 + ns.getD 0 0 % 12)
  refine (seq_nx (p0 ns)).trans ((seq_nx (p1 ns _)).trans ((seq_nx e).trans (tail_ok ns _ t ?_)))
  rcases h with h | h
  · rcases mod_cases (ns.getD 0 0) with q | q | q | q | q | q | q | q | q | q | q | q <;> rw [h, q] <;> decide
  · have sub : ∀ t ∈ ([0, 2, 13, -3, 14, 1000000000, -1000000000] : List Int), t ∈ ([1, 2, 3, 4, 5, 6, 7, 8, 9, 10, 11, 12, 0, 13, -3, 14, 1000000000, -1000000000] : List Int) := by decide
    exact sub t h
end DL

set_option Elab.async false
set_option linter.all false
set_option maxRecDepth 100000
set_option maxHeartbeats 8000000
namespace DL
open PySem PySem.Spec PyProof.Rows L2
/-! the end of law_k05_boards_laid, printed by ends.py -/
theorem all_mk {P : Program} {w : World} {K : PySem.W.Frag} {h : Heap} {mg : Str → Option Value} {fa : Addr} (X : K.In h) (G : h.Ns mainGlobals mg) (hfa : mg "law" = some (.ref fa))
    {f0 : Addr} {od0 an0 : Option Addr} {sl0 : Array (Option Value)} {oc0 kV0 dc0 pm0 cd0 ct0 : Value}
    {f1 : Addr} {od1 an1 : Option Addr} {sl1 : Array (Option Value)} {oc1 kV1 dc1 pm1 cd1 ct1 : Value}
    {f2 : Addr} {od2 an2 : Option Addr} {sl2 : Array (Option Value)} {oc2 kV2 dc2 pm2 cd2 ct2 : Value}
    {f3 : Addr} {od3 an3 : Option Addr} {sl3 : Array (Option Value)} {oc3 kV3 dc3 pm3 cd3 ct3 : Value}
    {f4 : Addr} {od4 an4 : Option Addr} {sl4 : Array (Option Value)} {oc4 kV4 dc4 pm4 cd4 ct4 : Value}
    {f5 : Addr} {od5 an5 : Option Addr} {sl5 : Array (Option Value)} {oc5 kV5 dc5 pm5 cd5 ct5 : Value}
    {f6 : Addr} {od6 an6 : Option Addr} {sl6 : Array (Option Value)} {oc6 kV6 dc6 pm6 cd6 ct6 : Value}
    {f7 : Addr} {od7 an7 : Option Addr} {sl7 : Array (Option Value)} {oc7 kV7 dc7 pm7 cd7 ct7 : Value}
    {f8 : Addr} {od8 an8 : Option Addr} {sl8 : Array (Option Value)} {oc8 kV8 dc8 pm8 cd8 ct8 : Value}
    {f9 : Addr} {od9 an9 : Option Addr} {sl9 : Array (Option Value)} {oc9 kV9 dc9 pm9 cd9 ct9 : Value}
    {f10 : Addr} {od10 an10 : Option Addr} {sl10 : Array (Option Value)} {oc10 kV10 dc10 pm10 cd10 ct10 : Value}
    {f11 : Addr} {od11 an11 : Option Addr} {sl11 : Array (Option Value)} {oc11 kV11 dc11 pm11 cd11 ct11 : Value}
    {C9 C2 : Addr}
    (a0 : PySem.W.nsIn K mainGlobals "odd_board" = some (some (.ref f0)))
    (l0 : K.lookup f0 = some ⟨oc0, od0, .func (PySem.W.fnOf "odd_board" "odd_board" (defArgs s_odd_board) (defBody s_odd_board) (defScope s_odd_board) .none kV0 dc0 pm0 an0 cd0 ct0), sl0⟩)
    (c0 : PySem.W.codeIn K cd0 "odd_board" = true) (k0 : PySem.W.keepIn K (.ref f0) = true)
    (a1 : PySem.W.nsIn K mainGlobals "fourfold_board" = some (some (.ref f1)))
    (l1 : K.lookup f1 = some ⟨oc1, od1, .func (PySem.W.fnOf "fourfold_board" "fourfold_board" (defArgs s_fourfold_board) (defBody s_fourfold_board) (defScope s_fourfold_board) .none kV1 dc1 pm1 an1 cd1 ct1), sl1⟩)
    (c1 : PySem.W.codeIn K cd1 "fourfold_board" = true) (k1 : PySem.W.keepIn K (.ref f1) = true)
    (a2 : PySem.W.nsIn K mainGlobals "block_of" = some (some (.ref f2)))
    (l2 : K.lookup f2 = some ⟨oc2, od2, .func (PySem.W.fnOf "block_of" "block_of" (defArgs s_block_of) (defBody s_block_of) (defScope s_block_of) .none kV2 dc2 pm2 an2 cd2 ct2), sl2⟩)
    (c2 : PySem.W.codeIn K cd2 "block_of" = true) (k2 : PySem.W.keepIn K (.ref f2) = true)
    (a3 : PySem.W.nsIn K mainGlobals "twofold_board" = some (some (.ref f3)))
    (l3 : K.lookup f3 = some ⟨oc3, od3, .func (PySem.W.fnOf "twofold_board" "twofold_board" (defArgs s_twofold_board) (defBody s_twofold_board) (defScope s_twofold_board) .none kV3 dc3 pm3 an3 cd3 ct3), sl3⟩)
    (c3 : PySem.W.codeIn K cd3 "twofold_board" = true) (k3 : PySem.W.keepIn K (.ref f3) = true)
    (a4 : PySem.W.nsIn K mainGlobals "laid" = some (some (.ref f4)))
    (l4 : K.lookup f4 = some ⟨oc4, od4, .func (PySem.W.fnOf "laid" "laid" (defArgs s_laid) (defBody s_laid) (defScope s_laid) .none kV4 dc4 pm4 an4 cd4 ct4), sl4⟩)
    (c4 : PySem.W.codeIn K cd4 "laid" = true) (k4 : PySem.W.keepIn K (.ref f4) = true)
    (a5 : PySem.W.nsIn K mainGlobals "_law_cell_at" = some (some (.ref f5)))
    (l5 : K.lookup f5 = some ⟨oc5, od5, .func (PySem.W.fnOf "_law_cell_at" "_law_cell_at" (defArgs s__law_cell_at) (defBody s__law_cell_at) (defScope s__law_cell_at) .none kV5 dc5 pm5 an5 cd5 ct5), sl5⟩)
    (c5 : PySem.W.codeIn K cd5 "_law_cell_at" = true) (k5 : PySem.W.keepIn K (.ref f5) = true)
    (a6 : PySem.W.nsIn K mainGlobals "_law_whole" = some (some (.ref f6)))
    (l6 : K.lookup f6 = some ⟨oc6, od6, .func (PySem.W.fnOf "_law_whole" "_law_whole" (defArgs s__law_whole) (defBody s__law_whole) (defScope s__law_whole) .none kV6 dc6 pm6 an6 cd6 ct6), sl6⟩)
    (c6 : PySem.W.codeIn K cd6 "_law_whole" = true) (k6 : PySem.W.keepIn K (.ref f6) = true)
    (a7 : PySem.W.nsIn K mainGlobals "_law_flat" = some (some (.ref f7)))
    (l7 : K.lookup f7 = some ⟨oc7, od7, .func (PySem.W.fnOf "_law_flat" "_law_flat" (defArgs s__law_flat) (defBody s__law_flat) (defScope s__law_flat) .none kV7 dc7 pm7 an7 cd7 ct7), sl7⟩)
    (c7 : PySem.W.codeIn K cd7 "_law_flat" = true) (k7 : PySem.W.keepIn K (.ref f7) = true)
    (a8 : PySem.W.nsIn K mainGlobals "_law_sums" = some (some (.ref f8)))
    (l8 : K.lookup f8 = some ⟨oc8, od8, .func (PySem.W.fnOf "_law_sums" "_law_sums" (defArgs s__law_sums) (defBody s__law_sums) (defScope s__law_sums) .none kV8 dc8 pm8 an8 cd8 ct8), sl8⟩)
    (c8 : PySem.W.codeIn K cd8 "_law_sums" = true) (k8 : PySem.W.keepIn K (.ref f8) = true)
    (a9 : PySem.W.nsIn K mainGlobals "_law_like" = some (some (.ref f9)))
    (l9 : K.lookup f9 = some ⟨oc9, od9, .func (PySem.W.fnOf "_law_like" "_law_like" (defArgs s__law_like) (defBody s__law_like) (defScope s__law_like) .none kV9 dc9 pm9 an9 cd9 ct9), sl9⟩)
    (c9 : PySem.W.codeIn K cd9 "_law_like" = true) (k9 : PySem.W.keepIn K (.ref f9) = true)
    (a10 : PySem.W.nsIn K mainGlobals "_law_met" = some (some (.ref f10)))
    (l10 : K.lookup f10 = some ⟨oc10, od10, .func (PySem.W.fnOf "_law_met" "_law_met" (defArgs s__law_met) (defBody s__law_met) (defScope s__law_met) .none kV10 dc10 pm10 an10 cd10 ct10), sl10⟩)
    (c10 : PySem.W.codeIn K cd10 "_law_met" = true) (k10 : PySem.W.keepIn K (.ref f10) = true)
    (a11 : PySem.W.nsIn K mainGlobals "law" = some (some (.ref f11)))
    (l11 : K.lookup f11 = some ⟨oc11, od11, .func (PySem.W.fnOf "law" "law" (defArgs s_law) (defBody s_law) (defScope s_law) .none kV11 dc11 pm11 an11 cd11 ct11), sl11⟩)
    (c11 : PySem.W.codeIn K cd11 "law" = true) (k11 : PySem.W.keepIn K (.ref f11) = true)
    (ac9 : PySem.W.nsIn K mainGlobals "SumError" = some (some (.ref C9))) (kc9 : PySem.W.keepIn K (.ref C9) = true) (bc9 : PySem.W.subIn K (.ref C9) (.type "BaseException") = some true) (tc9 : PySem.W.typeIn K (.ref C9) = some (.type "type"))
    (ac2 : PySem.W.nsIn K mainGlobals "NoSize" = some (some (.ref C2))) (kc2 : PySem.W.keepIn K (.ref C2) = true) (bc2 : PySem.W.subIn K (.ref C2) (.type "BaseException") = some true) (tc2 : PySem.W.typeIn K (.ref C2) = some (.type "type"))
    (x2 : PySem.W.excIn K C2 [.type "ValueError", .type "Exception", .type "BaseException", .type "object"] "ValueError.__new__" = true)
    (hd9 : PySem.W.hasDictIn K C9 = true)
    (hd2 : PySem.W.hasDictIn K C2 = true)
    (ga2 : PySem.W.findIn K (.ref C2) "__getattribute__" = some (some (.builtin "BaseException.__getattribute__"))) (gt2 : PySem.W.findIn K (.ref C2) "__getattr__" = some none) (gc2 : PySem.W.findIn K (.ref C2) "__class__" = some (some (.builtin "object.__class__"))) (mo2 : PySem.W.mroIn K C2 (.type "object") = some true)
    (kv2 : PySem.W.kitOne K (.ref C2) (.type "ValueError") = some true)
    (ks2_9 : PySem.W.kitOne K (.ref C2) (.ref C9) = some true) (es2_9 : PySem.W.subIn K (.ref C2) (.ref C9) = some true)
    (ks2_2 : PySem.W.kitOne K (.ref C2) (.ref C2) = some true) (es2_2 : PySem.W.subIn K (.ref C2) (.ref C2) = some true)
    (og : PySem.W.specialIn K (.builtin "object.__class__") "__get__" = some (some (.builtin "getset_descriptor.__get__"))) (ot : PySem.W.takesIn K (.builtin "object.__class__") = some true)
    (z0 : PySem.W.nsIn K mainGlobals "ValueError" = some none)
    (z1 : PySem.W.nsIn K mainGlobals "all" = some none)
    (z2 : PySem.W.nsIn K mainGlobals "bool" = some none)
    (z3 : PySem.W.nsIn K mainGlobals "int" = some none)
    (z4 : PySem.W.nsIn K mainGlobals "isinstance" = some none)
    (z5 : PySem.W.nsIn K mainGlobals "len" = some none)
    (z6 : PySem.W.nsIn K mainGlobals "list" = some none)
    (z7 : PySem.W.nsIn K mainGlobals "range" = some none)
    (z8 : PySem.W.nsIn K mainGlobals "set" = some none)
    (z9 : PySem.W.nsIn K mainGlobals "sorted" = some none)
    (z10 : PySem.W.nsIn K mainGlobals "sum" = some none) :
    ∃ fd : FuncData, (∀ (s : Shared) (v : Value), BindsTo s fd ⟨[v], []⟩ [("script", v)]) ∧ ∀ base : Heap, K.In base → base.Ns mainGlobals mg → FnOk P w K mg base (L2.CX P w) 5 fa fd ["script"] (spW m_law K) := by
  have e := hfa.symm.trans (PySem.W.mg_of X G a11)
  cases e
  have F0 := fun_mk (st := s_odd_board) l0 c0 k0
  have b0 := F0.binds (ps := ["size"]) fun _ _ _ _ _ _ us hl => match us, hl with | [_], _ => rfl
  have F1 := fun_mk (st := s_fourfold_board) l1 c1 k1
  have b1 := F1.binds (ps := ["size"]) fun _ _ _ _ _ _ us hl => match us, hl with | [_], _ => rfl
  have F2 := fun_mk (st := s_block_of) l2 c2 k2
  have b2 := F2.binds (ps := ["r", "c", "half"]) fun _ _ _ _ _ _ us hl => match us, hl with | [_, _, _], _ => rfl
  have F3 := fun_mk (st := s_twofold_board) l3 c3 k3
  have b3 := F3.binds (ps := ["size"]) fun _ _ _ _ _ _ us hl => match us, hl with | [_], _ => rfl
  have F4 := fun_mk (st := s_laid) l4 c4 k4
  have b4 := F4.binds (ps := ["size"]) fun _ _ _ _ _ _ us hl => match us, hl with | [_], _ => rfl
  have F5 := fun_mk (st := s__law_cell_at) l5 c5 k5
  have b5 := F5.binds (ps := ["script", "k"]) fun _ _ _ _ _ _ us hl => match us, hl with | [_, _], _ => rfl
  have F6 := fun_mk (st := s__law_whole) l6 c6 k6
  have b6 := F6.binds (ps := ["found"]) fun _ _ _ _ _ _ us hl => match us, hl with | [_], _ => rfl
  have F7 := fun_mk (st := s__law_flat) l7 c7 k7
  have b7 := F7.binds (ps := ["board"]) fun _ _ _ _ _ _ us hl => match us, hl with | [_], _ => rfl
  have F8 := fun_mk (st := s__law_sums) l8 c8 k8
  have b8 := F8.binds (ps := ["board"]) fun _ _ _ _ _ _ us hl => match us, hl with | [_], _ => rfl
  have F9 := fun_mk (st := s__law_like) l9 c9 k9
  have b9 := F9.binds (ps := ["board"]) fun _ _ _ _ _ _ us hl => match us, hl with | [_], _ => rfl
  have F10 := fun_mk (st := s__law_met) l10 c10 k10
  have b10 := F10.binds (ps := ["size"]) fun _ _ _ _ _ _ us hl => match us, hl with | [_], _ => rfl
  have F11 := fun_mk (st := s_law) l11 c11 k11
  have b11 := F11.binds (ps := ["script"]) fun _ _ _ _ _ _ us hl => match us, hl with | [_], _ => rfl
  have T : Txt K mg (fun i => match i with | 2 => C2 | _ => C9) (fun i => match i with | 0 => f0 | 1 => f1 | 2 => f2 | 3 => f3 | 4 => f4 | 5 => f5 | 6 => f6 | 7 => f7 | 8 => f8 | 9 => f9 | 10 => f10 | _ => fa) (fun i => match i with | 0 => PySem.W.fnOf "odd_board" "odd_board" (defArgs s_odd_board) (defBody s_odd_board) (defScope s_odd_board) .none kV0 dc0 pm0 an0 cd0 ct0 | 1 => PySem.W.fnOf "fourfold_board" "fourfold_board" (defArgs s_fourfold_board) (defBody s_fourfold_board) (defScope s_fourfold_board) .none kV1 dc1 pm1 an1 cd1 ct1 | 2 => PySem.W.fnOf "block_of" "block_of" (defArgs s_block_of) (defBody s_block_of) (defScope s_block_of) .none kV2 dc2 pm2 an2 cd2 ct2 | 3 => PySem.W.fnOf "twofold_board" "twofold_board" (defArgs s_twofold_board) (defBody s_twofold_board) (defScope s_twofold_board) .none kV3 dc3 pm3 an3 cd3 ct3 | 4 => PySem.W.fnOf "laid" "laid" (defArgs s_laid) (defBody s_laid) (defScope s_laid) .none kV4 dc4 pm4 an4 cd4 ct4 | 5 => PySem.W.fnOf "_law_cell_at" "_law_cell_at" (defArgs s__law_cell_at) (defBody s__law_cell_at) (defScope s__law_cell_at) .none kV5 dc5 pm5 an5 cd5 ct5 | 6 => PySem.W.fnOf "_law_whole" "_law_whole" (defArgs s__law_whole) (defBody s__law_whole) (defScope s__law_whole) .none kV6 dc6 pm6 an6 cd6 ct6 | 7 => PySem.W.fnOf "_law_flat" "_law_flat" (defArgs s__law_flat) (defBody s__law_flat) (defScope s__law_flat) .none kV7 dc7 pm7 an7 cd7 ct7 | 8 => PySem.W.fnOf "_law_sums" "_law_sums" (defArgs s__law_sums) (defBody s__law_sums) (defScope s__law_sums) .none kV8 dc8 pm8 an8 cd8 ct8 | 9 => PySem.W.fnOf "_law_like" "_law_like" (defArgs s__law_like) (defBody s__law_like) (defScope s__law_like) .none kV9 dc9 pm9 an9 cd9 ct9 | 10 => PySem.W.fnOf "_law_met" "_law_met" (defArgs s__law_met) (defBody s__law_met) (defScope s__law_met) .none kV10 dc10 pm10 an10 cd10 ct10 | _ => PySem.W.fnOf "law" "law" (defArgs s_law) (defBody s_law) (defScope s_law) .none kV11 dc11 pm11 an11 cd11 ct11) (fun i => match i with  | _ => .none) :=
    { F_odd_board := F0, g_odd_board := PySem.W.mg_of X G a0, b_odd_board := b0,
      F_fourfold_board := F1, g_fourfold_board := PySem.W.mg_of X G a1, b_fourfold_board := b1,
      F_block_of := F2, g_block_of := PySem.W.mg_of X G a2, b_block_of := b2,
      F_twofold_board := F3, g_twofold_board := PySem.W.mg_of X G a3, b_twofold_board := b3,
      F_laid := F4, g_laid := PySem.W.mg_of X G a4, b_laid := b4,
      F__law_cell_at := F5, g__law_cell_at := PySem.W.mg_of X G a5, b__law_cell_at := b5,
      F__law_whole := F6, g__law_whole := PySem.W.mg_of X G a6, b__law_whole := b6,
      F__law_flat := F7, g__law_flat := PySem.W.mg_of X G a7, b__law_flat := b7,
      F__law_sums := F8, g__law_sums := PySem.W.mg_of X G a8, b__law_sums := b8,
      F__law_like := F9, g__law_like := PySem.W.mg_of X G a9, b__law_like := b9,
      F__law_met := F10, g__law_met := PySem.W.mg_of X G a10, b__law_met := b10,
      F_law := F11, g_law := PySem.W.mg_of X G a11, b_law := b11,
      n_ValueError := PySem.W.mg_none_of X G z0,
      n_all := PySem.W.mg_none_of X G z1,
      n_bool := PySem.W.mg_none_of X G z2,
      n_int := PySem.W.mg_none_of X G z3,
      n_isinstance := PySem.W.mg_none_of X G z4,
      n_len := PySem.W.mg_none_of X G z5,
      n_list := PySem.W.mg_none_of X G z6,
      n_range := PySem.W.mg_none_of X G z7,
      n_set := PySem.W.mg_none_of X G z8,
      n_sorted := PySem.W.mg_none_of X G z9,
      n_sum := PySem.W.mg_none_of X G z10,
      c_SumError := PySem.W.mg_of X G ac9, kc_SumError := kc9, bc_SumError := bc9, tc_SumError := tc9,
      c_NoSize := PySem.W.mg_of X G ac2, kc_NoSize := kc2, bc_NoSize := bc2, tc_NoSize := tc2,
      x_NoSize := x2,
      xc_NoSize := ⟨ga2, gt2, bc2, hd2, gc2, og, ot, mo2⟩, kv_NoSize := kv2,
      ks_NoSize_SumError := ks2_9, em_NoSize_SumError := PySem.W.exm_ref bc9 hd9 tc9 es2_9,
      ks_NoSize_NoSize := ks2_2, em_NoSize_NoSize := PySem.W.exm_ref bc2 hd2 tc2 es2_2 }
  exact ⟨PySem.W.fnOf "law" "law" (defArgs s_law) (defBody s_law) (defScope s_law) .none kV11 dc11 pm11 an11 cd11 ct11, fun s v => .of_eq rfl, fun base _ _ => (ok_law T).imp fun _ _ _ _ z => spW_of z⟩
end DL
open PySem PySem.W PyProof.Rows
set_option maxHeartbeats 0 in
theorem PySem.Challenge.cw_likesums_k05_boards_laid_holds : PySem.Challenge.rw_likesums_k05_boards_laid.Holds := by
  w_on; o_law; k_head; (case hw => w_witness2)
  k_fill
  refine L2.walk_of (l := PySem.Challenge.rw_likesums_k05_boards_laid) (n := 63) (k := 5) (x := "script") (CX := fun w => L2.CX PySem.Challenge.rw_likesums_k05_boards_laid.prog w) (sp := fun w => DL.spW DL.m_law _) rfl (by decide) rfl ⟨rfl, by decide, by decide⟩ (fun w h Y => PySem.W.kIn_of Y) ?F (fun _ _ a ns _ _ hS => ⟨a, ns, rfl, hS, DL.law_ok ns, fun _ => rfl⟩) (fun _ _ _ _ _ h => DL.cx_never h)
  case F =>
    intro w mg fa h KX G hmg
    refine' DL.all_mk KX G hmg ?a0 ?l0 ?c0 ?k0 ?a1 ?l1 ?c1 ?k1 ?a2 ?l2 ?c2 ?k2 ?a3 ?l3 ?c3 ?k3 ?a4 ?l4 ?c4 ?k4 ?a5 ?l5 ?c5 ?k5 ?a6 ?l6 ?c6 ?k6 ?a7 ?l7 ?c7 ?k7 ?a8 ?l8 ?c8 ?k8 ?a9 ?l9 ?c9 ?k9 ?a10 ?l10 ?c10 ?k10 ?a11 ?l11 ?c11 ?k11 ?ac9 ?kc9 ?bc9 ?tc9 ?ac2 ?kc2 ?bc2 ?tc2 ?x2 ?hd9 ?hd2 ?ga2 ?gt2 ?gc2 ?mo2 ?kv2 ?ks2_9 ?es2_9 ?ks2_2 ?es2_2 ?og ?ot ?z0 ?z1 ?z2 ?z3 ?z4 ?z5 ?z6 ?z7 ?z8 ?z9 ?z10
    (case a0 => k_is)
    (case l0 => k_is)
    (case c0 => k_is)
    (case k0 => k_is)
    (case a1 => k_is)
    (case l1 => k_is)
    (case c1 => k_is)
    (case k1 => k_is)
    (case a2 => k_is)
    (case l2 => k_is)
    (case c2 => k_is)
    (case k2 => k_is)
    (case a3 => k_is)
    (case l3 => k_is)
    (case c3 => k_is)
    (case k3 => k_is)
    (case a4 => k_is)
    (case l4 => k_is)
    (case c4 => k_is)
    (case k4 => k_is)
    (case a5 => k_is)
    (case l5 => k_is)
    (case c5 => k_is)
    (case k5 => k_is)
    (case a6 => k_is)
    (case l6 => k_is)
    (case c6 => k_is)
    (case k6 => k_is)
    (case a7 => k_is)
    (case l7 => k_is)
    (case c7 => k_is)
    (case k7 => k_is)
    (case a8 => k_is)
    (case l8 => k_is)
    (case c8 => k_is)
    (case k8 => k_is)
    (case a9 => k_is)
    (case l9 => k_is)
    (case c9 => k_is)
    (case k9 => k_is)
    (case a10 => k_is)
    (case l10 => k_is)
    (case c10 => k_is)
    (case k10 => k_is)
    (case a11 => k_is)
    (case l11 => k_is)
    (case c11 => k_is)
    (case k11 => k_is)
    (case ac9 => k_is)
    (case kc9 => k_is)
    (case bc9 => k_is)
    (case tc9 => k_is)
    (case ac2 => k_is)
    (case kc2 => k_is)
    (case bc2 => k_is)
    (case tc2 => k_is)
    (case x2 => k_exc)
    (case hd9 => k_is)
    (case hd2 => k_is)
    (case ga2 => k_is)
    (case gt2 => k_is)
    (case gc2 => k_is)
    (case mo2 => k_is)
    (case kv2 => kit_is)
    (case ks2_9 => kit_is)
    (case es2_9 => k_is)
    (case ks2_2 => kit_is)
    (case es2_2 => k_is)
    (case og => k_is)
    (case ot => k_is)
    (case z0 => k_is)
    (case z1 => k_is)
    (case z2 => k_is)
    (case z3 => k_is)
    (case z4 => k_is)
    (case z5 => k_is)
    (case z6 => k_is)
    (case z7 => k_is)
    (case z8 => k_is)
    (case z9 => k_is)
    (case z10 => k_is)

