import PyProof.Rows.All
import Wide.All
import OpenK.AllK
import Wide.FinOn
import HandS.ForMost
import HandS.ForExc
import HandS.TryMany
import HandS.SortInts
import HandS.Conv
import HandS.Style
import HandS.Deep
import HandS.Zip
import HandS.Strs
import HandS.More
import HandS.SetFor
import HandS.IsInst
import HandS.ExcIs
import PyProof.Rows.SetFrom
import PyProof.SetRoads
import KE.SortData
import HandS.SortKw
import KE.DataMinMax
import HandS.HotCalls
import PySem.Challenge.RW_likesums_k11_refusals_apart
import KE.RegKIsAll
set_option Elab.async false
set_option linter.all false
set_option maxRecDepth 100000
set_option maxHeartbeats 1000000
/-! The data layer: data stands for values; a mirror (a function over data) tells what a piece of the program gives. -/
namespace DL
open PySem PySem.Spec PyProof.Rows L2

/-! ### data -/
inductive Dt where
  | non
  | bl (b : Bool)
  | int (i : Int)
  | lst (xs : List Dt)
  | tup (xs : List Dt)
  | scr (ns : List Int)

mutual
def Rp (K : PySem.W.Frag) (G : Hp) : Dt → V → Prop
  | .non, v => v = .non
  | .bl b, v => v = .bl b
  | .int i, v => v = .int i
  | .lst ds, v => ∃ a vs, v = .ref a ∧ G a = some (.lst vs) ∧ Rps K G ds vs
  | .tup ds, v => ∃ a vs, v = .ref a ∧ G a = some (.tup vs) ∧ Rps K G ds vs
  | .scr ns, v => ∃ a, v = .ref a ∧ SqL K G a (ns.map V.int)
def Rps (K : PySem.W.Frag) (G : Hp) : List Dt → List V → Prop
  | [], vs => vs = []
  | d :: ds, vs => ∃ v r, vs = v :: r ∧ Rp K G d v ∧ Rps K G ds r
end
section
variable {K : PySem.W.Frag} {G G' H H' : Hp}
mutual
theorem Rp.mono (h : Same G G') : ∀ {d : Dt} {v : V}, Rp K G d v → Rp K G' d v
  | .non, _, r => r
  | .bl _, _, r => r
  | .int _, _, r => r
  | .lst ds, _, ⟨a, vs, e, g, r⟩ => ⟨a, vs, e, h _ _ g, Rps.mono h r⟩
  | .tup ds, _, ⟨a, vs, e, g, r⟩ => ⟨a, vs, e, h _ _ g, Rps.mono h r⟩
  | .scr ns, _, ⟨a, e, g⟩ => ⟨a, e, h.seq g⟩
theorem Rps.mono (h : Same G G') : ∀ {ds : List Dt} {vs : List V}, Rps K G ds vs → Rps K G' ds vs
  | [], _, r => r
  | d :: ds, _, ⟨v, r, e, g, q⟩ => ⟨v, r, e, Rp.mono h g, Rps.mono h q⟩
end
theorem Rps.length : ∀ {ds : List Dt} {vs : List V}, Rps K G ds vs → vs.length = ds.length
  | [], _, r => by rw [show _ = [] from r]; rfl
  | d :: ds, _, ⟨v, r, e, _, q⟩ => by rw [e, List.length_cons, List.length_cons, Rps.length q]
theorem Rps.get : ∀ {ds : List Dt} {vs : List V} {i : Nat} {d : Dt}, Rps K G ds vs → ds[i]? = some d → ∃ v, vs[i]? = some v ∧ Rp K G d v
  | [], _, _, _, _, h => by simp at h
  | d :: ds, _, 0, d', ⟨v, r, e, g, _⟩, h => by
    simp at h; subst h
    exact ⟨v, by rw [e]; rfl, g⟩
  | d :: ds, _, i + 1, d', ⟨v, r, e, _, q⟩, h => by
    obtain ⟨u, h1, h2⟩ := Rps.get (i := i) q (by simpa using h)
    exact ⟨u, by rw [e]; simpa using h1, h2⟩
theorem Rps.getV : ∀ {ds : List Dt} {vs : List V} {i : Nat} {v : V}, Rps K G ds vs → vs[i]? = some v → ∃ d, ds[i]? = some d ∧ Rp K G d v
  | [], _, _, _, r, h => by rw [show _ = [] from r] at h; simp at h
  | d :: ds, _, 0, v', ⟨v, r, e, g, _⟩, h => by
    rw [e] at h; simp at h; subst h
    exact ⟨d, rfl, g⟩
  | d :: ds, _, i + 1, v', ⟨v, r, e, _, q⟩, h => by
    rw [e] at h
    obtain ⟨u, h1, h2⟩ := Rps.getV (i := i) q (by simpa using h)
    exact ⟨u, by simpa using h1, h2⟩
theorem Rps.append : ∀ {ds es : List Dt} {vs ws : List V}, Rps K G ds vs → Rps K G es ws → Rps K G (ds ++ es) (vs ++ ws)
  | [], _, _, _, r, q => by rw [show _ = [] from r]; exact q
  | d :: ds, es, _, ws, ⟨v, r, e, g, h⟩, q => ⟨v, r ++ ws, by rw [e]; rfl, g, Rps.append h q⟩
theorem Rps.take : ∀ {ds : List Dt} {vs : List V} (n : Nat), Rps K G ds vs → Rps K G (ds.take n) (vs.take n)
  | _, _, 0, _ => rfl
  | [], _, _ + 1, r => by rw [show _ = [] from r]; rfl
  | d :: ds, _, n + 1, ⟨v, r, e, g, h⟩ => ⟨v, r.take n, by rw [e]; rfl, g, Rps.take n h⟩
theorem Rps.drop : ∀ {ds : List Dt} {vs : List V} (n : Nat), Rps K G ds vs → Rps K G (ds.drop n) (vs.drop n)
  | _, _, 0, r => r
  | [], _, _ + 1, r => by rw [show _ = [] from r]; rfl
  | d :: ds, _, n + 1, ⟨v, r, e, g, h⟩ => by rw [e]; exact Rps.drop n h
theorem Rps.reverse {ds : List Dt} {vs : List V} (h : Rps K G ds vs) : Rps K G ds.reverse vs.reverse := by
  induction ds generalizing vs with
  | nil => rw [show vs = [] from h]; rfl
  | cons d ds ih =>
    obtain ⟨v, r, e, g, q⟩ := h
    rw [e, List.reverse_cons, List.reverse_cons]
    exact (ih q).append ⟨v, [], rfl, g, rfl⟩
theorem Rps.set {d : Dt} {v : V} (g : Rp K G d v) : ∀ {ds : List Dt} {vs : List V} (i : Nat), Rps K G ds vs → Rps K G (ds.set i d) (vs.set i v)
  | [], _, _, r => by rw [show _ = [] from r]; rfl
  | d' :: ds, _, 0, ⟨v', r, e, _, h⟩ => ⟨v, r, by rw [e]; rfl, g, h⟩
  | d' :: ds, _, i + 1, ⟨v', r, e, g', h⟩ => ⟨v', r.set i v, by rw [e]; rfl, g', Rps.set g i h⟩
theorem Rps.rep {ds : List Dt} {vs : List V} (h : Rps K G ds vs) : ∀ k : Nat, Rps K G (List.replicate k ds).flatten (List.replicate k vs).flatten
  | 0 => rfl
  | k + 1 => by
    rw [List.replicate_succ, List.replicate_succ, List.flatten_cons, List.flatten_cons]
    exact h.append (Rps.rep h k)
theorem Rps.ints : ∀ {ns : List Int} {vs : List V}, Rps K G (ns.map Dt.int) vs → vs = ns.map V.int
  | [], _, r => r
  | n :: ns, _, ⟨v, r, e, g, h⟩ => by rw [e, show v = .int n from g, Rps.ints h]; rfl
theorem Rps.of_ints : ∀ {ns : List Int}, Rps K G (ns.map Dt.int) (ns.map V.int)
  | [] => rfl
  | n :: ns => ⟨.int n, ns.map V.int, rfl, rfl, Rps.of_ints⟩
theorem Rps.bls : ∀ {ns : List Bool} {vs : List V}, Rps K G (ns.map Dt.bl) vs → vs = ns.map V.bl
  | [], _, r => r
  | n :: ns, _, ⟨v, r, e, g, h⟩ => by rw [e, show v = .bl n from g, Rps.bls h]; rfl

/-! ### data whose top levels are owned: the lists at L, each once, stand in H; what is deeper stands in G -/
def Ows (P : Dt → V → List Addr → Prop) : List Dt → List V → List Addr → Prop
  | [], vs, L => vs = [] ∧ L = []
  | d :: ds, vs, L => ∃ v r L1 L2, vs = v :: r ∧ L = L1 ++ L2 ∧ P d v L1 ∧ Ows P ds r L2
def Ow (K : PySem.W.Frag) (H G : Hp) : Nat → Dt → V → List Addr → Prop
  | n + 1, .lst ds, v, L => ∃ a vs L', v = .ref a ∧ H a = some (.lst vs) ∧ L = a :: L' ∧ Ows (Ow K H G n) ds vs L'
  | n + 1, .tup ds, v, L => ∃ a vs L', v = .ref a ∧ H a = some (.tup vs) ∧ L = a :: L' ∧ Ows (Ow K H G n) ds vs L'
  | _, d, v, L => L = [] ∧ Rp K G d v

theorem Ow.zero {d : Dt} {v : V} {L : List Addr} : Ow K H G 0 d v L ↔ L = [] ∧ Rp K G d v := by cases d <;> exact Iff.rfl
theorem Ows.mono {P Q : Dt → V → List Addr → Prop} (h : ∀ d v L, P d v L → Q d v L) : ∀ {ds : List Dt} {vs : List V} {L : List Addr}, Ows P ds vs L → Ows Q ds vs L
  | [], _, _, r => r
  | d :: ds, _, _, ⟨v, r, L1, L2, e1, e2, g, q⟩ => ⟨v, r, L1, L2, e1, e2, h _ _ _ g, Ows.mono h q⟩
/-- .. the relation may lean on its list being a part of the whole -/
theorem Ows.monoL {P Q : Dt → V → List Addr → Prop} : ∀ {ds : List Dt} {vs : List V} {L : List Addr}, (∀ d v L1, (∀ a ∈ L1, a ∈ L) → P d v L1 → Q d v L1) → Ows P ds vs L → Ows Q ds vs L
  | [], _, _, _, r => r
  | d :: ds, _, _, h, ⟨v, r, L1, L2, e1, e2, g, q⟩ => ⟨v, r, L1, L2, e1, e2, h _ _ _ (fun a ha => by rw [e2]; exact List.mem_append_left _ ha) g,
      Ows.monoL (fun d v L3 hs p => h d v L3 (fun a ha => by rw [e2]; exact List.mem_append_right _ (hs a ha)) p) q⟩
theorem Ow.mono (h : Same H H') (g : Same G G') : ∀ {n : Nat} {d : Dt} {v : V} {L : List Addr}, Ow K H G n d v L → Ow K H' G' n d v L := by
  intro n
  induction n with
  | zero =>
    intro d v L r
    rw [Ow.zero] at r ⊢
    exact ⟨r.1, r.2.mono g⟩
  | succ n ih =>
    intro d v L r
    cases d with
    | lst ds => obtain ⟨a, vs, L', e1, e2, e3, q⟩ := r; exact ⟨a, vs, L', e1, h _ _ e2, e3, q.mono fun _ _ _ => ih⟩
    | tup ds => obtain ⟨a, vs, L', e1, e2, e3, q⟩ := r; exact ⟨a, vs, L', e1, h _ _ e2, e3, q.mono fun _ _ _ => ih⟩
    | non => exact ⟨r.1, r.2⟩
    | bl b => exact ⟨r.1, r.2⟩
    | int i => exact ⟨r.1, r.2⟩
    | scr ns => exact ⟨r.1, (show Rp K G (.scr ns) v from r.2).mono g⟩
/-- what is owned changes at places outside: the owned objects stay -/
theorem Ow.move (g : Same G G') : ∀ {n : Nat} {d : Dt} {v : V} {L : List Addr}, (∀ a ∈ L, ∀ o, H a = some o → H' a = some o) → Ow K H G n d v L → Ow K H' G' n d v L := by
  intro n
  induction n with
  | zero =>
    intro d v L _ r
    rw [Ow.zero] at r ⊢
    exact ⟨r.1, r.2.mono g⟩
  | succ n ih =>
    intro d v L hL r
    cases d with
    | lst ds =>
      obtain ⟨a, vs, L', e1, e2, e3, q⟩ := r
      subst e3
      exact ⟨a, vs, L', e1, hL a List.mem_cons_self _ e2, rfl, q.monoL fun d v L1 hs p => ih (fun b hb o e => hL b (List.mem_cons_of_mem _ (hs b hb)) o e) p⟩
    | tup ds =>
      obtain ⟨a, vs, L', e1, e2, e3, q⟩ := r
      subst e3
      exact ⟨a, vs, L', e1, hL a List.mem_cons_self _ e2, rfl, q.monoL fun d v L1 hs p => ih (fun b hb o e => hL b (List.mem_cons_of_mem _ (hs b hb)) o e) p⟩
    | non => exact ⟨r.1, r.2⟩
    | bl b => exact ⟨r.1, r.2⟩
    | int i => exact ⟨r.1, r.2⟩
    | scr ns => exact ⟨r.1, (show Rp K G (.scr ns) v from r.2).mono g⟩
/-- in a view that has the owned objects too, all is shared -/
theorem Ow.rp (g : Same G G') : ∀ {n : Nat} {d : Dt} {v : V} {L : List Addr}, (∀ a ∈ L, ∀ o, H a = some o → G' a = some o) → Ow K H G n d v L → Rp K G' d v := by
  intro n
  induction n with
  | zero =>
    intro d v L hL r
    rw [Ow.zero] at r
    exact r.2.mono g
  | succ n ih =>
    intro d v L hL r
    have all : ∀ {ds : List Dt} {vs : List V} {L : List Addr}, (∀ a ∈ L, ∀ o, H a = some o → G' a = some o) → Ows (Ow K H G n) ds vs L → Rps K G' ds vs := by
      intro ds
      induction ds with
      | nil => intro vs L _ q; exact q.1
      | cons d ds ihd =>
        intro vs L hL q
        obtain ⟨v, r, L1, L2, e1, e2, p, q⟩ := q
        subst e2
        exact ⟨v, r, e1, ih (fun a ha => hL a (List.mem_append_left _ ha)) p, ihd (fun a ha => hL a (List.mem_append_right _ ha)) q⟩
    cases d with
    | lst ds =>
      obtain ⟨a, vs, L', e1, e2, e3, q⟩ := r
      subst e3
      exact ⟨a, vs, e1, hL a List.mem_cons_self _ e2, all (fun b hb => hL b (List.mem_cons_of_mem _ hb)) q⟩
    | tup ds =>
      obtain ⟨a, vs, L', e1, e2, e3, q⟩ := r
      subst e3
      exact ⟨a, vs, e1, hL a List.mem_cons_self _ e2, all (fun b hb => hL b (List.mem_cons_of_mem _ hb)) q⟩
    | non => exact r.2
    | bl b => exact r.2
    | int i => exact r.2
    | scr ns => exact (show Rp K G (.scr ns) v from r.2).mono g
/-- owned lists stand in the heap -/
theorem Ow.there : ∀ {n : Nat} {d : Dt} {v : V} {L : List Addr}, Ow K H G n d v L → ∀ a ∈ L, ∃ o, H a = some o := by
  intro n
  induction n with
  | zero =>
    intro d v L r a ha
    rw [Ow.zero] at r
    rw [r.1] at ha; cases ha
  | succ n ih =>
    intro d v L r
    have all : ∀ {ds : List Dt} {vs : List V} {L : List Addr}, Ows (Ow K H G n) ds vs L → ∀ a ∈ L, ∃ o, H a = some o := by
      intro ds
      induction ds with
      | nil => intro vs L q a ha; rw [q.2] at ha; cases ha
      | cons d ds ihd =>
        intro vs L q a ha
        obtain ⟨v, r, L1, L2, e1, e2, p, q⟩ := q
        rw [e2] at ha
        rcases List.mem_append.mp ha with ha | ha
        · exact ih p a ha
        · exact ihd q a ha
    cases d with
    | lst ds =>
      obtain ⟨a, vs, L', e1, e2, e3, q⟩ := r
      subst e3
      intro b hb
      rcases List.mem_cons.mp hb with rfl | hb
      · exact ⟨_, e2⟩
      · exact all q b hb
    | tup ds =>
      obtain ⟨a, vs, L', e1, e2, e3, q⟩ := r
      subst e3
      intro b hb
      rcases List.mem_cons.mp hb with rfl | hb
      · exact ⟨_, e2⟩
      · exact all q b hb
    | non => intro a ha; rw [r.1] at ha; cases ha
    | bl b => intro a ha; rw [r.1] at ha; cases ha
    | int i => intro a ha; rw [r.1] at ha; cases ha
    | scr ns => intro a ha; rw [r.1] at ha; cases ha

def isScal : Dt → Bool
  | .non => true
  | .bl _ => true
  | .int _ => true
  | _ => false
/-- nothing stands below depth n -/
def deep : Nat → Dt → Bool
  | n + 1, .lst ds => ds.all (deep n)
  | n + 1, .tup ds => ds.all (deep n)
  | _, d => isScal d
theorem Ow.scal {n m : Nat} {d : Dt} {v : V} {L : List Addr} {H' G' : Hp} (h : isScal d = true) (r : Ow K H G n d v L) : L = [] ∧ Ow K H' G' m d v [] ∧ Rp K G' d v := by
  cases d with
  | non => cases n <;> cases m <;> exact ⟨r.1, ⟨rfl, r.2⟩, r.2⟩
  | bl b => cases n <;> cases m <;> exact ⟨r.1, ⟨rfl, r.2⟩, r.2⟩
  | int i => cases n <;> cases m <;> exact ⟨r.1, ⟨rfl, r.2⟩, r.2⟩
  | _ => simp [isScal] at h
theorem deep_zero {d : Dt} : deep 0 d = isScal d := by cases d <;> rfl
theorem Ow.deep : ∀ {n m : Nat} {d : Dt} {v : V} {L : List Addr} {G' : Hp}, deep n d = true → n ≤ m → Ow K H G n d v L → Ow K H G' m d v L := by
  intro n
  induction n with
  | zero =>
    intro m d v L G' h _ r
    rw [deep_zero] at h
    obtain ⟨e, q, _⟩ := r.scal (m := m) (H' := H) (G' := G') h
    rw [e]; exact q
  | succ n ih =>
    intro m d v L G' h hm r
    obtain ⟨m, rfl⟩ : ∃ k, m = k + 1 := ⟨m - 1, by omega⟩
    have all : ∀ {ds : List Dt} {vs : List V} {L : List Addr}, ds.all (DL.deep n) = true → Ows (Ow K H G n) ds vs L → Ows (Ow K H G' m) ds vs L := by
      intro ds
      induction ds with
      | nil => intro vs L _ q; exact q
      | cons d ds ihd =>
        intro vs L hd q
        rw [List.all_cons, Bool.and_eq_true] at hd
        obtain ⟨v, r, L1, L2, e1, e2, p, q⟩ := q
        exact ⟨v, r, L1, L2, e1, e2, ih hd.1 (by omega) p, ihd hd.2 q⟩
    cases d with
    | lst ds =>
      obtain ⟨a, vs, L', e1, e2, e3, q⟩ := r
      exact ⟨a, vs, L', e1, e2, e3, all h q⟩
    | tup ds =>
      obtain ⟨a, vs, L', e1, e2, e3, q⟩ := r
      exact ⟨a, vs, L', e1, e2, e3, all h q⟩
    | non => exact ⟨r.1, r.2⟩
    | bl b => exact ⟨r.1, r.2⟩
    | int i => exact ⟨r.1, r.2⟩
    | scr ns => simp [DL.deep, isScal] at h
end
end DL

set_option Elab.async false
set_option linter.all false
set_option maxRecDepth 100000
set_option maxHeartbeats 1000000
namespace DL
open PySem PySem.Spec PyProof.Rows L2

/-! ### answers -/
inductive Res (α : Type) where
  | ok (a : α)
  | exc (c : Nat)
  | bad
def Res.bind {α β : Type} (r : Res α) (f : α → Res β) : Res β := match r with
  | .ok a => f a
  | .exc c => .exc c
  | .bad => .bad
@[simp] theorem Res.bind_ok {α β : Type} (a : α) (f : α → Res β) : (Res.ok a).bind f = f a := rfl
@[simp] theorem Res.bind_exc {α β : Type} (c : Nat) (f : α → Res β) : (Res.exc c : Res α).bind f = .exc c := rfl
@[simp] theorem Res.bind_bad {α β : Type} (f : α → Res β) : (Res.bad : Res α).bind f = .bad := rfl
def guardR {α : Type} (b : Bool) (r : Res α) : Res α := if b = true then r else .bad
@[simp] theorem guardR_true {α : Type} (r : Res α) : guardR true r = r := rfl
@[simp] theorem guardR_false {α : Type} (r : Res α) : guardR false r = .bad := rfl

abbrev Ev := List (Option Dt)
abbrev Mr := Ev → Res Dt
/-- what an expression may do to the tracked heap and to the view -/
structure Stp (H G H' G' : Hp) : Prop where
  h : Same H H'
  g : Same G G'
  s : Same G' H'
  new : ∀ a o, G' a = some o → (∃ u, G a = some u) ∨ H a = none
theorem Stp.refl {H G : Hp} (s : Same G H) : Stp H G H G := ⟨Same.refl _, Same.refl _, s, fun a o e => .inl ⟨o, e⟩⟩
theorem Stp.trans {H G H1 G1 H2 G2 : Hp} (a : Stp H G H1 G1) (b : Stp H1 G1 H2 G2) : Stp H G H2 G2 :=
  ⟨a.h.trans b.h, a.g.trans b.g, b.s, fun p o e => by
    rcases b.new p o e with ⟨u, q⟩ | q
    · exact a.new p u q
    · refine .inr ?_
      cases z : H p with
      | none => rfl
      | some u => rw [a.h _ _ z] at q; cases q⟩
/-- a new object, in the view -/
theorem Stp.newG {H G : Hp} (s : Same G H) {p : Addr} (np : H p = none) (o : HO) : Stp H G (upd H p o) (upd G p o) := by
  refine ⟨fun b u e => ?_, fun b u e => ?_, fun b u e => ?_, fun b u e => ?_⟩
  · rw [upd_ne (ne_of_none e np)]; exact e
  · rw [upd_ne (ne_of_none (s _ _ e) np)]; exact e
  · by_cases hb : b = p
    · subst hb; rw [upd_same] at e ⊢; exact e
    · rw [upd_ne hb] at e ⊢; exact s _ _ e
  · by_cases hb : b = p
    · subst hb; exact .inr np
    · rw [upd_ne hb] at e; exact .inl ⟨u, e⟩
/-- .. beside the view -/
theorem Stp.newH {H G : Hp} (s : Same G H) {p : Addr} (np : H p = none) (o : HO) : Stp H G (upd H p o) G := by
  have k : Same H (upd H p o) := fun b u e => by rw [upd_ne (ne_of_none e np)]; exact e
  exact ⟨k, Same.refl _, s.trans k, fun b u e => .inl ⟨u, e⟩⟩
/-- with any view that lies between -/
theorem Stp.view {H G H' G1 G2 : Hp} (a : Stp H G H' G1) (g : Same G1 G2) (s : Same G2 H') (new : ∀ p o, G2 p = some o → (∃ u, G1 p = some u) ∨ H p = none) : Stp H G H' G2 :=
  ⟨a.h, a.g.trans g, s, fun p o e => by
    rcases new p o e with ⟨u, q⟩ | q
    · exact a.new p u q
    · exact .inr q⟩
theorem none_back {H H' : Hp} (s : Same H H') {a : Addr} (n : H' a = none) : H a = none := s.free n

section
variable (K : PySem.W.Frag) (cm : Nat → Value)
def Post (E : XK) (n : Nat) (H G : Hp) (r : Res Dt) (Q : VK) : Prop := match r with
  | .ok d => ∀ v H' G' L, Stp H G H' G' → L.Nodup → (∀ a ∈ L, H a = none ∧ G' a = none) → Ow K H' G' n d v L → Q v H'
  | .exc c => ∀ H', Same H H' → E (cm c) none H'
  | .bad => False
def Posts (E : XK) (n : Nat) (H G : Hp) (r : Res (List Dt)) (Q : List V → Hp → Prop) : Prop := match r with
  | .ok ds => ∀ vs H' G' L, Stp H G H' G' → L.Nodup → (∀ a ∈ L, H a = none ∧ G' a = none) → Ows (Ow K H' G' n) ds vs L → Q vs H'
  | .exc c => ∀ H', Same H H' → E (cm c) none H'
  | .bad => False
/-- the names' data -/
structure EvR (G : Hp) (Γ : Ev) (σ : L2.St) : Prop where
  at_ : ∀ (i : Nat) (d : Dt), Γ[i]? = some (some d) → ∃ v, σ[i]? = some (some v) ∧ Rp K G d v
  len : Γ.length = σ.length
def tD (E : L2.St → XK) (n : Nat) (m : Mr) : TE := fun σ H Q => ∃ G Γ, Same G H ∧ EvR K G Γ σ ∧ Post K cm (E σ) n H G (m Γ) Q
def tDs (E : L2.St → XK) (n : Nat) (m : Ev → Res (List Dt)) : TA := fun σ H Q => ∃ G Γ, Same G H ∧ EvR K G Γ σ ∧ Posts K cm (E σ) n H G (m Γ) Q
def PostT (E : XK) (H G : Hp) (r : Res Bool) (Q : Bool → Hp → Prop) : Prop := match r with
  | .ok b => ∀ H' G', Stp H G H' G' → Q b H'
  | .exc c => ∀ H', Same H H' → E (cm c) none H'
  | .bad => False
def tDT (E : L2.St → XK) (m : Ev → Res Bool) : TT := fun σ H Q => ∃ G Γ, Same G H ∧ EvR K G Γ σ ∧ PostT cm (E σ) H G (m Γ) Q
end
theorem EvR.mono {K : PySem.W.Frag} {G G' : Hp} {Γ : Ev} {σ : L2.St} (h : EvR K G Γ σ) (s : Same G G') : EvR K G' Γ σ := ⟨fun i d e => let ⟨v, h1, h2⟩ := h.at_ i d e; ⟨v, h1, h2.mono s⟩, h.len⟩

section
variable {K : PySem.W.Frag} {cm : Nat → Value} {E : XK} {n : Nat} {H G H1 G1 : Hp} {Q : VK}
theorem Post.step {r : Res Dt} (p : Post K cm E n H G r Q) (s : Stp H G H1 G1) : Post K cm E n H1 G1 r Q := by
  cases r with
  | ok d => exact fun v H' G' L t nd fr o => p v H' G' L (s.trans t) nd (fun a ha => ⟨none_back s.h (fr a ha).1, (fr a ha).2⟩) o
  | exc c => exact fun H' t => p H' (s.h.trans t)
  | bad => exact p
theorem Posts.step {r : Res (List Dt)} {Q : List V → Hp → Prop} (p : Posts K cm E n H G r Q) (s : Stp H G H1 G1) : Posts K cm E n H1 G1 r Q := by
  cases r with
  | ok d => exact fun v H' G' L t nd fr o => p v H' G' L (s.trans t) nd (fun a ha => ⟨none_back s.h (fr a ha).1, (fr a ha).2⟩) o
  | exc c => exact fun H' t => p H' (s.h.trans t)
  | bad => exact p
theorem PostT.step {r : Res Bool} {Q : Bool → Hp → Prop} (p : PostT cm E H G r Q) (s : Stp H G H1 G1) : PostT cm E H1 G1 r Q := by
  cases r with
  | ok d => exact fun H' G' t => p H' G' (s.trans t)
  | exc c => exact fun H' t => p H' (s.h.trans t)
  | bad => exact p
/-- an answer that is there, shared -/
theorem Post.here {d : Dt} {v : V} (p : Post K cm E 0 H G (.ok d) Q) (s : Same G H) (r : Rp K G d v) : Q v H :=
  p v H G [] (.refl s) List.nodup_nil (fun a ha => nomatch ha) (by rw [Ow.zero]; exact ⟨rfl, r⟩)
/-- a scalar answer -/
theorem Post.scal {d : Dt} {v : V} (p : Post K cm E n H G (.ok d) Q) (s : Same G H) (h : isScal d = true) (r : Rp K G d v) : Q v H := by
  refine p v H G [] (.refl s) List.nodup_nil (fun a ha => nomatch ha) ?_
  exact (Ow.scal (H := H) (G := G) (n := 0) (L := []) h (by rw [Ow.zero]; exact ⟨rfl, r⟩)).2.1
/-- a new list of shared items, at level 0 or 1 -/
theorem Post.list {ds : List Dt} {vs : List V} {p : Addr} (po : Post K cm E n H G (.ok (.lst ds)) Q) (hn : n ≤ 1) (s : Same G H) (np : H p = none) (r : Rps K G ds vs) : Q (.ref p) (upd H p (.lst vs)) := by
  have ngp : G p = none := none_back s np
  rcases Nat.le_one_iff_eq_zero_or_eq_one.mp hn with rfl | rfl
  · refine po (.ref p) _ (upd G p (.lst vs)) [] (.newG s np _) List.nodup_nil (fun a ha => nomatch ha) ?_
    rw [Ow.zero]
    exact ⟨rfl, p, vs, rfl, upd_same, r.mono (Stp.newG s np (.lst vs)).g⟩
  · refine po (.ref p) _ G [p] (.newH s np _) (by simp) (fun a ha => ?_) ?_
    · rw [List.mem_singleton] at ha; subst ha; exact ⟨np, ngp⟩
    · refine ⟨p, vs, [], rfl, upd_same, rfl, ?_⟩
      have all : ∀ {ds : List Dt} {vs : List V}, Rps K G ds vs → Ows (Ow K (upd H p (.lst vs)) G 0) ds vs [] := by
        intro ds
        induction ds with
        | nil => intro vs r; exact ⟨r, rfl⟩
        | cons d ds ih =>
          intro vs r
          obtain ⟨v, t, e, g, q⟩ := r
          refine ⟨v, t, [], [], e, rfl, by rw [Ow.zero]; exact ⟨rfl, g⟩, ?_⟩
          exact (ih q).mono fun d v L o => by rw [Ow.zero] at o ⊢; exact o
      have all' : ∀ {ds : List Dt} {us : List V} {Hx : Hp}, Rps K G ds us → Ows (Ow K Hx G 0) ds us [] := by
        intro ds us Hx r
        exact (all r).mono fun d v L o => by rw [Ow.zero] at o ⊢; exact o
      exact all' r
/-- owned items, shared from now on -/
theorem Ows.zero_of : ∀ {ds : List Dt} {vs : List V} {L : List Addr} {Hx : Hp}, Ows (Ow K Hx G 0) ds vs L → L = [] ∧ Rps K G ds vs
  | [], _, _, _, r => ⟨r.2, r.1⟩
  | d :: ds, _, _, _, ⟨v, r, L1, L2, e1, e2, p, q⟩ => by
    rw [Ow.zero] at p
    obtain ⟨q1, q2⟩ := Ows.zero_of q
    exact ⟨by rw [e2, p.1, q1]; rfl, v, r, e1, p.2, q2⟩
theorem Ows.of_zero : ∀ {ds : List Dt} {vs : List V} {Hx : Hp}, Rps K G ds vs → Ows (Ow K Hx G 0) ds vs []
  | [], _, _, r => ⟨r, rfl⟩
  | d :: ds, _, _, ⟨v, r, e, g, q⟩ => ⟨v, r, [], [], e, rfl, by rw [Ow.zero]; exact ⟨rfl, g⟩, Ows.of_zero q⟩
end

/-! ### the judgements -/
def DE (X : Cx) (cm : Nat → Value) (E : L2.St → XK) (n : Nat) (e : Expr) (m : Mr) : Prop := PE X e (tD X.K cm E n m)
def DA (X : Cx) (cm : Nat → Value) (E : L2.St → XK) (n : Nat) (es : List Expr) (m : Ev → Res (List Dt)) : Prop := PA X es (tDs X.K cm E n m)
def DT (X : Cx) (cm : Nat → Value) (E : L2.St → XK) (e : Expr) (m : Ev → Res Bool) : Prop := PT X e (tDT X.K cm E m)
def DW (X : Cx) (cm : Nat → Value) (E : L2.St → XK) (e : Expr) (m : Ev → Res Bool) : Prop := PW X e (tDT X.K cm E m)

theorem PE.of {X : Cx} {e : Expr} {t t' : TE} (h : PE X e t) (w : ∀ σ H Q, t' σ H Q → t σ H Q) : PE X e t' := ⟨fun pins s σ H Q I q => h.run pins s σ H Q I (w σ H Q q)⟩
theorem PA.of {X : Cx} {e : List Expr} {t t' : TA} (h : PA X e t) (w : ∀ σ H Q, t' σ H Q → t σ H Q) : PA X e t' := ⟨fun pos pins s σ H Q I q => h.run pos pins s σ H Q I (w σ H Q q)⟩
theorem PT.of {X : Cx} {e : Expr} {t t' : TT} (h : PT X e t) (w : ∀ σ H Q, t' σ H Q → t σ H Q) : PT X e t' := ⟨fun pins s σ H Q I q => h.run pins s σ H Q I (w σ H Q q)⟩
theorem PW.of {X : Cx} {e : Expr} {t t' : TT} (h : PW X e t) (w : ∀ σ H Q, t' σ H Q → t σ H Q) : PW X e t' := ⟨fun wh pins s σ H Q I q => h.run wh pins s σ H Q I (w σ H Q q)⟩

section
variable {X : Cx} {cm : Nat → Value} {E : L2.St → XK} {n : Nat} {a b c e : Expr} {ma mb mc : Mr} {pos : Pos}

/-! ### names, constants -/
def mVar (i : Nat) : Mr := fun Γ => match Γ[i]? with
  | some (some d) => .ok d
  | _ => .bad
theorem de_var {i : Nat} (h : PE X e (tVar i)) : DE X cm E 0 e (mVar i) := by
  refine PE.of h fun σ H Q ⟨G, Γ, s, ev, po⟩ => ?_
  unfold mVar at po
  split at po
  · rename_i d hd
    obtain ⟨v, h1, h2⟩ := ev.at_ i d hd
    exact ⟨v, h1, po.here s h2⟩
  · exact po.elim
def mC (d : Dt) : Mr := fun _ => .ok d
theorem de_int {i : Int} {j : Nat} : DE X cm E n (.Constant (.int i) j pos) (mC (.int i)) :=
  PE.of pe_int fun σ H Q ⟨G, Γ, s, ev, po⟩ => po.scal s rfl rfl
theorem de_bl {b : Bool} {j : Nat} : DE X cm E n (.Constant (.bool b) j pos) (mC (.bl b)) :=
  PE.of pe_bl fun σ H Q ⟨G, Γ, s, ev, po⟩ => po.scal s rfl rfl
theorem de_non {j : Nat} : DE X cm E n (.Constant .none j pos) (mC .non) :=
  PE.of pe_non fun σ H Q ⟨G, Γ, s, ev, po⟩ => po.scal s rfl rfl
/-- a module's int constant -/
theorem de_glob {x : Str} {i : Int} {u : Value} (hg : Gl X x) (hm : X.mg x = some u) (r : RelV (.int i) u) (hd : (x == ("__debug__" : Str)) = false := by decide) : DE X cm E n (.Name x pos) (mC (.int i)) :=
  PE.of (pe_glob hg hm r hd) fun σ H Q ⟨G, Γ, s, ev, po⟩ => po.scal s rfl rfl

/-! ### two parts, by values -/

def mBin (f : Dt → Dt → Res Dt) (ma mb : Mr) : Mr := fun Γ => (ma Γ).bind fun x => (mb Γ).bind fun y => f x y
/-- what two parts give, under a rule for two values -/
theorem bin_ok {K : PySem.W.Frag} {r : R2} {f : Dt → Dt → Res Dt} {σ : L2.St} {H G : Hp} {Γ : Ev} {Q : VK}
    (hf : ∀ (E : XK) x y H G d1 d2 Q, Same G H → Rp K G d1 x → Rp K G d2 y → Post K cm E n H G (f d1 d2) Q → r x y H Q)
    (s : Same G H) (ev : EvR K G Γ σ) (po : Post K cm (E σ) n H G (mBin f ma mb Γ) Q) : tOp r (tD K cm E 0 ma) (tD K cm E 0 mb) σ H Q := by
  refine ⟨G, Γ, s, ev, ?_⟩
  unfold mBin at po
  cases hx : ma Γ with
  | bad => rw [hx] at po; exact po.elim
  | exc c => rw [hx] at po; exact po
  | ok x =>
    rw [hx, Res.bind_ok] at po
    intro v H1 G1 L st _ _ ow
    rw [Ow.zero] at ow
    refine ⟨G1, Γ, st.s, ev.mono st.g, ?_⟩
    have po1 := po.step st
    cases hy : mb Γ with
    | bad => rw [hy] at po1; exact po1.elim
    | exc c => rw [hy] at po1; exact po1
    | ok y =>
      rw [hy, Res.bind_ok] at po1
      intro v2 H2 G2 L2 st2 _ _ ow2
      rw [Ow.zero] at ow2
      exact hf (E σ) v v2 H2 G2 x y Q st2.s (ow.2.mono st2.g) ow2.2 (po1.step st2)
theorem de_bin {op : Operator} {r : R2} {f : Dt → Dt → Res Dt} (ho : OpR X (binaryOp op) r)
    (hf : ∀ (E : XK) x y H G d1 d2 Q, Same G H → Rp X.K G d1 x → Rp X.K G d2 y → Post X.K cm E n H G (f d1 d2) Q → r x y H Q)
    (ha : DE X cm E 0 a ma) (hb : DE X cm E 0 b mb) : DE X cm E n (.BinOp a op b pos) (mBin f ma mb) :=
  PE.of (pe_op ho ha hb) fun σ H Q ⟨G, Γ, s, ev, po⟩ => bin_ok hf s ev po
theorem de_cmp {op : CmpOp} {r : R2} {f : Dt → Dt → Res Dt} (ho : OpR X (compareOp op) r)
    (hf : ∀ (E : XK) x y H G d1 d2 Q, Same G H → Rp X.K G d1 x → Rp X.K G d2 y → Post X.K cm E n H G (f d1 d2) Q → r x y H Q)
    (ha : DE X cm E 0 a ma) (hb : DE X cm E 0 b mb) (hm : behindInMarks op b = false) : DE X cm E n (.Compare a [op] [b] pos) (mBin f ma mb) :=
  PE.of (pe_cmpR ho ha hb hm) fun σ H Q ⟨G, Γ, s, ev, po⟩ => bin_ok hf s ev po
def toB (r : Res Dt) : Res Bool := r.bind fun d => match d with
  | .bl b => .ok b
  | _ => .bad
def mTest (m : Mr) : Ev → Res Bool := fun Γ => toB (m Γ)
/-- a bool's test from its value -/
theorem test_ok {K : PySem.W.Frag} {E : XK} {H G : Hp} {r : Res Dt} {Q : Bool → Hp → Prop} (po : PostT cm E H G (toB r) Q) : Post K cm E 0 H G r fun x H' => ∃ k, x = V.bl k ∧ Q k H' := by
  cases r with
  | bad => exact po
  | exc c => exact po
  | ok d =>
    cases d with
    | bl b =>
      intro v H' G' L st _ _ ow
      rw [Ow.zero] at ow
      exact ⟨b, ow.2, po H' G' st⟩
    | _ => exact (show False from po).elim
theorem dt_cmp {op : CmpOp} {r : R2} {f : Dt → Dt → Res Dt} (ho : OpR X (compareOp op) r)
    (hf : ∀ (E : XK) x y H G d1 d2 Q, Same G H → Rp X.K G d1 x → Rp X.K G d2 y → Post X.K cm E 0 H G (f d1 d2) Q → r x y H Q)
    (ha : DE X cm E 0 a ma) (hb : DE X cm E 0 b mb) (hm : behindInMarks op b = false) : DT X cm E (.Compare a [op] [b] pos) (mTest (mBin f ma mb)) :=
  PT.of (pt_cmpR ho ha hb hm) fun σ H Q ⟨G, Γ, s, ev, po⟩ => bin_ok hf s ev (test_ok po)
/-- an expression that gives a bool, as a test -/
theorem dt_val (h : DE X cm E 0 e ma) (he : ∀ whole, isTrue e X.env whole = (do let v ← whole; standAt e.pos; holding [v] (truthy v)) := by intro _; rfl) : DT X cm E e (mTest ma) :=
  PT.of (pt_val h he) fun σ H Q ⟨G, Γ, s, ev, po⟩ => ⟨G, Γ, s, ev, test_ok po⟩
end
end DL

set_option Elab.async false
set_option linter.all false
set_option maxRecDepth 100000
set_option maxHeartbeats 1000000
namespace DL
open PySem PySem.Spec PyProof.Rows L2

/-! ### data as the kit's data -/
mutual
def py : Dt → PyData
  | .non => .none
  | .bl b => .bool b
  | .int i => .int i
  | .lst ds => .list (pys ds)
  | .tup ds => .tuple (pys ds)
  | .scr _ => .none
def pys : List Dt → List PyData
  | [] => []
  | d :: ds => py d :: pys ds
end
theorem pys_map : ∀ ds : List Dt, pys ds = ds.map py
  | [] => rfl
  | d :: ds => by rw [pys, pys_map ds]; rfl
def dEq (x y : Dt) : Bool := PyData.eqv (py x) (py y)
theorem deep_succ : ∀ {n : Nat} {d : Dt}, deep n d = true → deep (n + 1) d = true := by
  intro n
  induction n with
  | zero =>
    intro d h
    rw [deep_zero] at h
    cases d <;> first | rfl | simp [isScal] at h
  | succ n ih =>
    intro d h
    cases d with
    | lst ds =>
      show ds.all (deep (n + 1)) = true
      exact List.all_eq_true.mpr fun x hx => ih (List.all_eq_true.mp (show ds.all (deep n) = true from h) x hx)
    | tup ds =>
      show ds.all (deep (n + 1)) = true
      exact List.all_eq_true.mpr fun x hx => ih (List.all_eq_true.mp (show ds.all (deep n) = true from h) x hx)
    | scr ns => simp [deep, isScal] at h
    | _ => rfl
theorem depthAll_le : ∀ {n : Nat} {ds : List PyData}, (∀ d ∈ ds, d.depth ≤ n) → PyData.depthAll ds ≤ n
  | n, [], _ => by rw [PyData.depthAll]; omega
  | n, d :: ds, h => by
    rw [PyData.depthAll]
    have h1 := h d List.mem_cons_self
    have h2 := depthAll_le (ds := ds) fun x hx => h x (List.mem_cons_of_mem _ hx)
    omega
theorem lay_all : ∀ {ds : List PyData}, (∀ d ∈ ds, d.canLay0 = true) → PyData.canLayAll0 ds = true
  | [], _ => by rw [PyData.canLayAll0]
  | d :: ds, h => by
    rw [PyData.canLayAll0, h d List.mem_cons_self, lay_all fun x hx => h x (List.mem_cons_of_mem _ hx)]; rfl
theorem py_deep : ∀ {n : Nat} {d : Dt}, deep n d = true → (py d).canLay0 = true ∧ (py d).depth ≤ n := by
  intro n
  induction n with
  | zero =>
    intro d h
    rw [deep_zero] at h
    cases d <;> first | exact ⟨rfl, Nat.le_refl _⟩ | (simp [isScal] at h; done) | (constructor <;> simp [py, PyData.canLay0, PyData.depth])
  | succ n ih =>
    intro d h
    have go : ∀ {ds : List Dt}, ds.all (deep n) = true → PyData.canLayAll0 (pys ds) = true ∧ PyData.depthAll (pys ds) ≤ n := fun {ds} h => by
      rw [pys_map]
      have k : ∀ x ∈ ds.map py, x.canLay0 = true ∧ x.depth ≤ n := fun x hx => by
        obtain ⟨y, hy, rfl⟩ := List.mem_map.mp hx
        exact ih (List.all_eq_true.mp h y hy)
      exact ⟨lay_all fun x hx => (k x hx).1, depthAll_le fun x hx => (k x hx).2⟩
    cases d with
    | lst ds =>
      obtain ⟨h1, h2⟩ := go (ds := ds) h
      rw [py, PyData.canLay0, PyData.depth]
      exact ⟨h1, by omega⟩
    | tup ds =>
      obtain ⟨h1, h2⟩ := go (ds := ds) h
      rw [py, PyData.canLay0, PyData.depth]
      exact ⟨h1, by omega⟩
    | scr ns => simp [deep, isScal] at h
    | non => constructor <;> simp [py, PyData.canLay0, PyData.depth]
    | bl b => constructor <;> simp [py, PyData.canLay0, PyData.depth]
    | int b => constructor <;> simp [py, PyData.canLay0, PyData.depth]
theorem shaped_deep {d : Dt} (h : deep 6 d = true) : SeqAt.shaped (py d) = true := by
  obtain ⟨h1, h2⟩ := py_deep h
  unfold SeqAt.shaped
  rw [h1, Bool.true_and]
  exact decide_eq_true (by omega)
section
variable {K : PySem.W.Frag} {G H : Hp}
theorem Dp.mono (s : Same G H) : True := trivial
mutual
theorem dp_of (s : Same G H) : ∀ {n : Nat} {d : Dt} {v : V}, deep n d = true → Rp K G d v → Dp K H v (py d)
  | _, .non, _, _, r => by rw [show _ = _ from r, py]; exact .non
  | _, .bl b, _, _, r => by rw [show _ = _ from r, py]; exact .bl b
  | _, .int i, _, _, r => by rw [show _ = _ from r, py]; exact .int i
  | n + 1, .lst ds, _, h, ⟨a, vs, e, g, r⟩ => by rw [e, py]; exact .lst (.inl (.inl (s _ _ g))) (dps_of s (n := n) h r)
  | n + 1, .tup ds, _, h, ⟨a, vs, e, g, r⟩ => by rw [e, py]; exact .tup (.inl (.inl (s _ _ g))) (dps_of s (n := n) h r)
  | 0, .lst ds, _, h, _ => by simp [deep, isScal] at h
  | 0, .tup ds, _, h, _ => by simp [deep, isScal] at h
  | 0, .scr ds, _, h, _ => by simp [deep, isScal] at h
  | n + 1, .scr ds, _, h, _ => by simp [deep, isScal] at h
theorem dps_of (s : Same G H) : ∀ {n : Nat} {ds : List Dt} {vs : List V}, ds.all (deep n) = true → Rps K G ds vs → DpAll K H vs (pys ds)
  | _, [], _, _, r => by rw [show _ = _ from r, pys]; exact .nil
  | n, d :: ds, _, h, ⟨v, r, e, g, q⟩ => by
    rw [List.all_cons, Bool.and_eq_true] at h
    rw [e, pys]
    exact .cons (dp_of s (n := n) h.1 g) (dps_of s h.2 q)
end
theorem atI_rps {ds : List Dt} {vs : List V} {i : Int} {d : Dt} (r : Rps K G ds vs) (h : atI ds i = some d) : ∃ v, atI vs i = some v ∧ Rp K G d v := by
  unfold atI at h ⊢
  rw [r.length]
  cases e : ixN ds.length i with
  | none => rw [e] at h; cases h
  | some j =>
    rw [e, Option.bind_some] at h
    exact r.get h
end

/-! ### numbers -/
def fAdd : Dt → Dt → Res Dt
  | .int i, .int j => .ok (.int (i + j))
  | .lst xs, .lst ys => guardR (decide (xs.length + ys.length ≤ 16777216)) (.ok (.lst (xs ++ ys)))
  | _, _ => .bad
def fSub : Dt → Dt → Res Dt
  | .int i, .int j => .ok (.int (i - j))
  | _, _ => .bad
def small64 (i : Int) : Bool := decide (-(2 ^ 64) < i) && decide (i < 2 ^ 64)
def small63 (i : Int) : Bool := decide (-(2 ^ 63) ≤ i) && decide (i < 2 ^ 63)
def fMul : Dt → Dt → Res Dt
  | .int i, .int j => guardR (small64 i || small64 j) (.ok (.int (i * j)))
  | .lst xs, .int k => guardR (small63 k && decide (xs.length * k.toNat ≤ 16777216)) (.ok (.lst (List.replicate k.toNat xs).flatten))
  | _, _ => .bad
def fDiv : Dt → Dt → Res Dt
  | .int i, .int j => guardR (decide (0 < j) && decide (j < 1073741824)) (.ok (.int (i / j)))
  | _, _ => .bad
def fMod : Dt → Dt → Res Dt
  | .int i, .int j => guardR (decide (0 < j)) (.ok (.int (i % j)))
  | _, _ => .bad
def fPow : Dt → Dt → Res Dt
  | .int i, .int j => guardR (decide (0 ≤ j) && decide (j ≤ 1000000) && small64 i) (.ok (.int (i ^ j.toNat)))
  | _, _ => .bad
def fNeg : Dt → Res Dt
  | .int i => .ok (.int (-i))
  | _ => .bad
def fLt : Dt → Dt → Res Dt
  | .int i, .int j => .ok (.bl (decide (i < j)))
  | _, _ => .bad
def fLe : Dt → Dt → Res Dt
  | .int i, .int j => .ok (.bl (decide (i ≤ j)))
  | _, _ => .bad
def fGt : Dt → Dt → Res Dt
  | .int i, .int j => .ok (.bl (decide (j < i)))
  | _, _ => .bad
def fGe : Dt → Dt → Res Dt
  | .int i, .int j => .ok (.bl (decide (j ≤ i)))
  | _, _ => .bad
def fEq (x y : Dt) : Res Dt := guardR (deep 6 x && deep 6 y) (.ok (.bl (dEq x y)))
def fNe (x y : Dt) : Res Dt := guardR (deep 6 x && deep 6 y) (.ok (.bl (!dEq x y)))

theorem guard_po {K : PySem.W.Frag} {cm : Nat → Value} {E : XK} {n : Nat} {H G : Hp} {b : Bool} {r : Res Dt} {Q : VK} (po : Post K cm E n H G (guardR b r) Q) : b = true ∧ Post K cm E n H G r Q := by
  cases b with
  | true => exact ⟨rfl, po⟩
  | false => exact (show False from po).elim

section
variable {X : Cx} {cm : Nat → Value} {E : L2.St → XK} {n : Nat} {a b c e : Expr} {ma mb mc : Mr} {pos : Pos}
theorem de_add (hn : n ≤ 1) (ha : DE X cm E 0 a ma) (hb : DE X cm E 0 b mb) : DE X cm E n (.BinOp a .Add b pos) (mBin fAdd ma mb) :=
  de_bin (OpR.or op_add op_cat) (fun E x y H G d1 d2 Q s r1 r2 po => by
    cases d1 with
    | int i => cases d2 with
      | int j => exact .inl ⟨i, j, r1, r2, po.scal s rfl rfl⟩
      | _ => exact (show False from po).elim
    | lst xs => cases d2 with
      | lst ys =>
        obtain ⟨p, vs, e1, g1, q1⟩ := r1
        obtain ⟨q, ws, e2, g2, q2⟩ := r2
        obtain ⟨hz, po⟩ := guard_po po
        have hz := of_decide_eq_true hz
        refine .inr ⟨p, q, vs, ws, e1, e2, s _ _ g1, s _ _ g2, by rw [q1.length, q2.length, sizeLine_eq]; exact hz, fun z nz => ?_⟩
        exact po.list hn s nz (q1.append q2)
      | _ => exact (show False from po).elim
    | _ => exact (show False from po).elim) ha hb
theorem de_sub (ha : DE X cm E 0 a ma) (hb : DE X cm E 0 b mb) : DE X cm E n (.BinOp a .Sub b pos) (mBin fSub ma mb) :=
  de_bin op_sub (fun E x y H G d1 d2 Q s r1 r2 po => by
    cases d1 with
    | int i => cases d2 with
      | int j => exact ⟨i, j, r1, r2, po.scal s rfl rfl⟩
      | _ => exact (show False from po).elim
    | _ => exact (show False from po).elim) ha hb
theorem small64_ok {i : Int} (h : small64 i = true) : -(2 ^ 64) < i ∧ i < 2 ^ 64 := by
  unfold small64 at h
  rw [Bool.and_eq_true] at h
  exact ⟨of_decide_eq_true h.1, of_decide_eq_true h.2⟩
theorem de_mul (hn : n ≤ 1) (ha : DE X cm E 0 a ma) (hb : DE X cm E 0 b mb) : DE X cm E n (.BinOp a .Mult b pos) (mBin fMul ma mb) :=
  de_bin (OpR.or op_mul op_rep) (fun E x y H G d1 d2 Q s r1 r2 po => by
    cases d1 with
    | int i => cases d2 with
      | int j =>
        obtain ⟨hz, po⟩ := guard_po po
        refine .inl ⟨i, j, r1, r2, ?_, po.scal s rfl rfl⟩
        rw [Bool.or_eq_true] at hz
        exact hz.imp small64_ok small64_ok
      | _ => exact (show False from po).elim
    | lst xs => cases d2 with
      | int k =>
        obtain ⟨p, vs, e1, g1, q1⟩ := r1
        obtain ⟨hz, po⟩ := guard_po po
        rw [Bool.and_eq_true] at hz
        have hz2 := of_decide_eq_true hz.2
        have h3 := hz.1
        unfold small63 at h3
        rw [Bool.and_eq_true] at h3
        refine .inr ⟨p, k, vs, e1, r2, s _ _ g1, of_decide_eq_true h3.1, of_decide_eq_true h3.2, by rw [q1.length, sizeLine_eq]; exact hz2, fun z nz => ?_⟩
        exact po.list hn s nz (q1.rep _)
      | _ => exact (show False from po).elim
    | _ => exact (show False from po).elim) ha hb
theorem de_fdiv (ha : DE X cm E 0 a ma) (hb : DE X cm E 0 b mb) : DE X cm E n (.BinOp a .FloorDiv b pos) (mBin fDiv ma mb) :=
  de_bin op_fdiv (fun E x y H G d1 d2 Q s r1 r2 po => by
    cases d1 with
    | int i => cases d2 with
      | int j =>
        obtain ⟨hz, po⟩ := guard_po po
        rw [Bool.and_eq_true] at hz
        exact ⟨i, j, r1, r2, ⟨of_decide_eq_true hz.1, of_decide_eq_true hz.2⟩, po.scal s rfl rfl⟩
      | _ => exact (show False from po).elim
    | _ => exact (show False from po).elim) ha hb
theorem de_mod (ha : DE X cm E 0 a ma) (hb : DE X cm E 0 b mb) : DE X cm E n (.BinOp a .Mod b pos) (mBin fMod ma mb) :=
  de_bin op_mod (fun E x y H G d1 d2 Q s r1 r2 po => by
    cases d1 with
    | int i => cases d2 with
      | int j =>
        obtain ⟨hz, po⟩ := guard_po po
        exact ⟨i, j, r1, r2, of_decide_eq_true hz, po.scal s rfl rfl⟩
      | _ => exact (show False from po).elim
    | _ => exact (show False from po).elim) ha hb
theorem de_pow (ha : DE X cm E 0 a ma) (hb : DE X cm E 0 b mb) : DE X cm E n (.BinOp a .Pow b pos) (mBin fPow ma mb) :=
  de_bin op_pow (fun E x y H G d1 d2 Q s r1 r2 po => by
    cases d1 with
    | int i => cases d2 with
      | int j =>
        obtain ⟨hz, po⟩ := guard_po po
        rw [Bool.and_eq_true, Bool.and_eq_true] at hz
        have h3 := small64_ok hz.2
        exact ⟨i, j, r1, r2, ⟨of_decide_eq_true hz.1.1, of_decide_eq_true hz.1.2, by omega⟩, po.scal s rfl rfl⟩
      | _ => exact (show False from po).elim
    | _ => exact (show False from po).elim) ha hb
def mUn (f : Dt → Res Dt) (ma : Mr) : Mr := fun Γ => (ma Γ).bind f
theorem un_ok {K : PySem.W.Frag} {r : V → Hp → VK → Prop} {f : Dt → Res Dt} {σ : L2.St} {H G : Hp} {Γ : Ev} {Q : VK}
    (hf : ∀ (E : XK) x H G d1 Q, Same G H → Rp K G d1 x → Post K cm E n H G (f d1) Q → r x H Q)
    (s : Same G H) (ev : EvR K G Γ σ) (po : Post K cm (E σ) n H G (mUn f ma Γ) Q) : tD K cm E 0 ma σ H (fun x H1 => r x H1 Q) := by
  refine ⟨G, Γ, s, ev, ?_⟩
  unfold mUn at po
  cases hx : ma Γ with
  | bad => rw [hx] at po; exact po.elim
  | exc c => rw [hx] at po; exact po
  | ok x =>
    rw [hx, Res.bind_ok] at po
    intro v H1 G1 L st _ _ ow
    rw [Ow.zero] at ow
    exact hf (E σ) v H1 G1 x Q st.s ow.2 (po.step st)
theorem de_neg (ha : DE X cm E 0 a ma) : DE X cm E n (.UnaryOp .USub a pos) (mUn fNeg ma) :=
  PE.of (pe_un un_neg ha) fun σ H Q ⟨G, Γ, s, ev, po⟩ => un_ok (n := n) (f := fNeg) (r := rU fun i => .int (-i)) (fun E x H G d1 Q s r1 po => by
    cases d1 with
    | int i => exact ⟨i, r1, po.scal s rfl rfl⟩
    | _ => exact (show False from po).elim) s ev po

/-! ### comparisons -/
section
variable {Em : XK} {x y : V} {H G : Hp} {d1 d2 : Dt} {Q : VK}
theorem cmpI {f : Dt → Dt → Res Dt} {g : Int → Int → Bool} (h1 : ∀ i j, f (.int i) (.int j) = .ok (.bl (g i j))) (h2 : ∀ d1 d2, (∀ i j, d1 = .int i → d2 = .int j → False) → f d1 d2 = .bad) :
    ∀ (Em : XK) (x y : V) (H G : Hp) (d1 d2 : Dt) (Q : VK), Same G H → Rp X.K G d1 x → Rp X.K G d2 y → Post X.K cm Em n H G (f d1 d2) Q → (rI0 fun i j => V.bl (g i j)) x y H Q := by
  intro Em x y H G d1 d2 Q s r1 r2 po
  by_cases h : ∃ i j, d1 = .int i ∧ d2 = .int j
  · obtain ⟨i, j, rfl, rfl⟩ := h
    rw [h1] at po
    exact ⟨i, j, r1, r2, po.scal s rfl rfl⟩
  · rw [h2 d1 d2 fun i j e1 e2 => h ⟨i, j, e1, e2⟩] at po
    exact po.elim
theorem badI {f : Dt → Dt → Res Dt} (hf : ∀ d1 d2, (∃ i j, d1 = .int i ∧ d2 = .int j) ∨ f d1 d2 = .bad) : ∀ d1 d2, (∀ i j, d1 = .int i → d2 = .int j → False) → f d1 d2 = .bad := fun d1 d2 h => by
  rcases hf d1 d2 with ⟨i, j, e1, e2⟩ | e
  · exact (h i j e1 e2).elim
  · exact e
end
theorem ltI : ∀ (Em : XK) (x y : V) (H G : Hp) (d1 d2 : Dt) (Q : VK), Same G H → Rp X.K G d1 x → Rp X.K G d2 y → Post X.K cm Em n H G (fLt d1 d2) Q → (rI0 fun i j => V.bl (decide (i < j))) x y H Q :=
  cmpI (fun _ _ => rfl) (badI fun d1 d2 => by cases d1 <;> cases d2 <;> first | exact .inr rfl | exact .inl ⟨_, _, rfl, rfl⟩)
theorem leI : ∀ (Em : XK) (x y : V) (H G : Hp) (d1 d2 : Dt) (Q : VK), Same G H → Rp X.K G d1 x → Rp X.K G d2 y → Post X.K cm Em n H G (fLe d1 d2) Q → (rI0 fun i j => V.bl (decide (i ≤ j))) x y H Q :=
  cmpI (fun _ _ => rfl) (badI fun d1 d2 => by cases d1 <;> cases d2 <;> first | exact .inr rfl | exact .inl ⟨_, _, rfl, rfl⟩)
theorem gtI : ∀ (Em : XK) (x y : V) (H G : Hp) (d1 d2 : Dt) (Q : VK), Same G H → Rp X.K G d1 x → Rp X.K G d2 y → Post X.K cm Em n H G (fGt d1 d2) Q → (rI0 fun i j => V.bl (decide (j < i))) x y H Q :=
  cmpI (fun _ _ => rfl) (badI fun d1 d2 => by cases d1 <;> cases d2 <;> first | exact .inr rfl | exact .inl ⟨_, _, rfl, rfl⟩)
theorem geI : ∀ (Em : XK) (x y : V) (H G : Hp) (d1 d2 : Dt) (Q : VK), Same G H → Rp X.K G d1 x → Rp X.K G d2 y → Post X.K cm Em n H G (fGe d1 d2) Q → (rI0 fun i j => V.bl (decide (j ≤ i))) x y H Q :=
  cmpI (fun _ _ => rfl) (badI fun d1 d2 => by cases d1 <;> cases d2 <;> first | exact .inr rfl | exact .inl ⟨_, _, rfl, rfl⟩)
theorem eqI : ∀ (Em : XK) (x y : V) (H G : Hp) (d1 d2 : Dt) (Q : VK), Same G H → Rp X.K G d1 x → Rp X.K G d2 y → Post X.K cm Em n H G (fEq d1 d2) Q → rEqD X.K x y H Q := fun Em x y H G d1 d2 Q s r1 r2 po => by
  obtain ⟨hz, po⟩ := guard_po po
  rw [Bool.and_eq_true] at hz
  exact ⟨py d1, py d2, dp_of s hz.1 r1, dp_of s hz.2 r2, shaped_deep hz.1, shaped_deep hz.2, po.scal s rfl rfl⟩
theorem neI : ∀ (Em : XK) (x y : V) (H G : Hp) (d1 d2 : Dt) (Q : VK), Same G H → Rp X.K G d1 x → Rp X.K G d2 y → Post X.K cm Em n H G (fNe d1 d2) Q → rNeD X.K x y H Q := fun Em x y H G d1 d2 Q s r1 r2 po => by
  obtain ⟨hz, po⟩ := guard_po po
  rw [Bool.and_eq_true] at hz
  exact ⟨py d1, py d2, dp_of s hz.1 r1, dp_of s hz.2 r2, shaped_deep hz.1, shaped_deep hz.2, po.scal s rfl rfl⟩
variable (ha : DE X cm E 0 a ma) (hb : DE X cm E 0 b mb)
include ha hb
theorem de_lt : DE X cm E n (.Compare a [.Lt] [b] pos) (mBin fLt ma mb) := de_cmp op_lt ltI ha hb (nomark _)
theorem de_le : DE X cm E n (.Compare a [.LtE] [b] pos) (mBin fLe ma mb) := de_cmp op_le leI ha hb (nomark _)
theorem de_gt : DE X cm E n (.Compare a [.Gt] [b] pos) (mBin fGt ma mb) := de_cmp op_gt gtI ha hb (nomark _)
theorem de_ge : DE X cm E n (.Compare a [.GtE] [b] pos) (mBin fGe ma mb) := de_cmp op_ge geI ha hb (nomark _)
theorem de_eq (hu : X.A.units + 64 < cLine) : DE X cm E n (.Compare a [.Eq] [b] pos) (mBin fEq ma mb) := de_cmp (op_eqD hu) eqI ha hb (nomark _)
theorem de_ne (hu : X.A.units + 64 < cLine) : DE X cm E n (.Compare a [.NotEq] [b] pos) (mBin fNe ma mb) := de_cmp (op_neD hu) neI ha hb (nomark _)
theorem dt_lt : DT X cm E (.Compare a [.Lt] [b] pos) (mTest (mBin fLt ma mb)) := dt_cmp op_lt ltI ha hb (nomark _)
theorem dt_le : DT X cm E (.Compare a [.LtE] [b] pos) (mTest (mBin fLe ma mb)) := dt_cmp op_le leI ha hb (nomark _)
theorem dt_gt : DT X cm E (.Compare a [.Gt] [b] pos) (mTest (mBin fGt ma mb)) := dt_cmp op_gt gtI ha hb (nomark _)
theorem dt_ge : DT X cm E (.Compare a [.GtE] [b] pos) (mTest (mBin fGe ma mb)) := dt_cmp op_ge geI ha hb (nomark _)
theorem dt_eq (hu : X.A.units + 64 < cLine) : DT X cm E (.Compare a [.Eq] [b] pos) (mTest (mBin fEq ma mb)) := dt_cmp (op_eqD hu) eqI ha hb (nomark _)
theorem dt_ne (hu : X.A.units + 64 < cLine) : DT X cm E (.Compare a [.NotEq] [b] pos) (mTest (mBin fNe ma mb)) := dt_cmp (op_neD hu) neI ha hb (nomark _)
omit ha hb
end
end DL

set_option Elab.async false
set_option linter.all false
set_option maxRecDepth 100000
set_option maxHeartbeats 1000000
namespace DL
open PySem PySem.Spec PyProof.Rows L2

section
variable {K : PySem.W.Frag} {H G H1 G1 H' G' : Hp} {n : Nat}
theorem Ows.there {P : Dt → V → List Addr → Prop} (h : ∀ d v L, P d v L → ∀ a ∈ L, ∃ o, H a = some o) : ∀ {ds : List Dt} {vs : List V} {L : List Addr}, Ows P ds vs L → ∀ a ∈ L, ∃ o, H a = some o
  | [], _, _, r, a, ha => by rw [r.2] at ha; cases ha
  | d :: ds, _, _, ⟨v, r, L1, L2, e1, e2, p, q⟩, a, ha => by
    rw [e2] at ha
    rcases List.mem_append.mp ha with ha | ha
    · exact h _ _ _ p a ha
    · exact Ows.there h q a ha
theorem Ows.length {P : Dt → V → List Addr → Prop} : ∀ {ds : List Dt} {vs : List V} {L : List Addr}, Ows P ds vs L → vs.length = ds.length
  | [], _, _, r => by rw [r.1]; rfl
  | d :: ds, _, _, ⟨v, r, L1, L2, e1, e2, p, q⟩ => by rw [e1, List.length_cons, List.length_cons, Ows.length q]
theorem Ows.snoc {P : Dt → V → List Addr → Prop} {d : Dt} {v : V} {L2 : List Addr} (p : P d v L2) : ∀ {ds : List Dt} {vs : List V} {L : List Addr}, Ows P ds vs L → Ows P (ds ++ [d]) (vs ++ [v]) (L ++ L2)
  | [], _, _, r => by rw [r.1, r.2]; exact ⟨v, [], L2, [], rfl, by simp, p, rfl, rfl⟩
  | d' :: ds, _, _, ⟨v', r, L1, L3, e1, e2, p', q⟩ => by
    rw [e1, e2]
    exact ⟨v', r ++ [v], L1, L3 ++ L2, rfl, by simp, p', Ows.snoc p q⟩
/-- what was fresh and owned stays apart behind a later step -/
theorem apart (st : Stp H1 G1 H' G') {L : List Addr} (hl : ∀ a ∈ L, ∃ o, H1 a = some o) (hg : ∀ a ∈ L, G1 a = none) : ∀ a ∈ L, G' a = none := fun a ha => by
  cases e : G' a with
  | none => rfl
  | some o =>
    rcases st.new a o e with ⟨u, q⟩ | q
    · rw [hg a ha] at q; cases q
    · obtain ⟨u, z⟩ := hl a ha
      rw [q] at z; cases z
/-- two owned parts, the one made behind the other -/
theorem two_nd {L1 L2 : List Addr} (n1 : L1.Nodup) (n2 : L2.Nodup) (h1 : ∀ a ∈ L1, ∃ o, H1 a = some o) (h2 : ∀ a ∈ L2, H1 a = none) : (L1 ++ L2).Nodup :=
  List.nodup_append.mpr ⟨n1, n2, fun a ha b hb e => by
    obtain ⟨o, z⟩ := h1 a ha
    rw [e, h2 b hb] at z; cases z⟩
/-- the widest view that a step from (H, G) may leave -/
def wide (H G H' : Hp) : Hp := fun a => if (G a).isSome = true ∨ (H a).isSome = false then H' a else none
theorem wide_of {a : Addr} {o : HO} (h : (∃ u, G a = some u) ∨ H a = none) (e : H' a = some o) : wide H G H' a = some o := by
  unfold wide
  rw [if_pos]
  · exact e
  · rcases h with ⟨u, q⟩ | q
    · left; rw [q]; rfl
    · right; rw [q]; rfl
theorem wide_inv {a : Addr} {o : HO} (e : wide H G H' a = some o) : ((∃ u, G a = some u) ∨ H a = none) ∧ H' a = some o := by
  unfold wide at e
  split at e
  · rename_i h
    refine ⟨?_, e⟩
    rcases h with q | q
    · exact .inl (Option.isSome_iff_exists.mp q)
    · exact .inr (by cases z : H a with
        | none => rfl
        | some u => rw [z] at q; cases q)
  · cases e
theorem Stp.wide (st : Stp H G H' G') : Stp H G H' (DL.wide H G H') ∧ Same G' (DL.wide H G H') :=
  have s : Same G' (DL.wide H G H') := fun a o e => wide_of (st.new a o e) (st.s _ _ e)
  ⟨⟨st.h, st.g.trans s, fun a o e => (wide_inv e).2, fun a o e => (wide_inv e).1⟩, s⟩
/-- owned, then shared -/
theorem Ow.share {d : Dt} {v : V} {L : List Addr} (st : Stp H G H' G') (fr : ∀ a ∈ L, H a = none) (o : Ow K H' G' n d v L) : Rp K (wide H G H') d v :=
  o.rp st.wide.2 fun a ha u e => wide_of (.inr (fr a ha)) e
theorem Post.up {cm : Nat → Value} {E : XK} {r : Res Dt} {Q : VK} (po : Post K cm E 0 H G r Q) : Post K cm E n H G r Q := by
  cases r with
  | bad => exact po
  | exc c => exact po
  | ok d => exact fun v H' G' L st nd fr o => po v H' (wide H G H') [] st.wide.1 List.nodup_nil (fun a ha => nomatch ha) (by rw [Ow.zero]; exact ⟨rfl, o.share st fun a ha => (fr a ha).1⟩)
end
/-- .. of a part that is asked shared: Post at n from Post at 0 -/
theorem de_zero {X : Cx} {cm : Nat → Value} {E : L2.St → XK} {n : Nat} {e : Expr} {m : Mr} (h : DE X cm E n e m) : DE X cm E 0 e m :=
  PE.of h fun σ H Q ⟨G, Γ, s, ev, po⟩ => ⟨G, Γ, s, ev, po.up⟩
def mDeep (k : Nat) (m : Mr) : Mr := fun Γ => (m Γ).bind fun d => guardR (deep k d) (.ok d)
theorem Post.deepen {K : PySem.W.Frag} {cm : Nat → Value} {E : XK} {k n : Nat} {H G : Hp} {r : Res Dt} {Q : VK} (hk : k ≤ n) (po : Post K cm E n H G (r.bind fun d => guardR (deep k d) (.ok d)) Q) : Post K cm E k H G r Q := by
  cases r with
  | bad => exact po
  | exc c => exact po
  | ok d =>
    obtain ⟨hd, po⟩ := guard_po po
    exact fun v H' G' L st nd fr o => po v H' G' L st nd fr (o.deep hd hk)
theorem de_deep {X : Cx} {cm : Nat → Value} {E : L2.St → XK} {k n : Nat} {e : Expr} {m : Mr} (hk : k ≤ n) (h : DE X cm E k e m) : DE X cm E n e (mDeep k m) :=
  PE.of h fun σ H Q ⟨G, Γ, s, ev, po⟩ => ⟨G, Γ, s, ev, po.deepen hk⟩

section
variable {X : Cx} {cm : Nat → Value} {E : L2.St → XK} {n : Nat} {a b c e : Expr} {es : List Expr} {ma mb mc m : Mr} {ms : Ev → Res (List Dt)} {pos : Pos}

/-! ### argument lists, displays -/
def mNil : Ev → Res (List Dt) := fun _ => .ok []
def mCons (m : Mr) (ms : Ev → Res (List Dt)) : Ev → Res (List Dt) := fun Γ => (m Γ).bind fun d => (ms Γ).bind fun ds => .ok (d :: ds)
theorem da_nil : DA X cm E n [] mNil :=
  PA.of pa_nil fun σ H Q ⟨G, Γ, s, ev, po⟩ => po [] H G [] (.refl s) List.nodup_nil (fun a ha => nomatch ha) ⟨rfl, rfl⟩
theorem da_cons (h : DE X cm E n e m) (hs : DA X cm E n es ms) (hq : starEach (e :: es) X.env = (false, eval e X.env) :: starEach es X.env := by rfl) : DA X cm E n (e :: es) (mCons m ms) := by
  refine PA.of (pa_cons h hs hq) fun σ H Q ⟨G, Γ, s, ev, po⟩ => ⟨G, Γ, s, ev, ?_⟩
  unfold mCons at po
  cases hx : m Γ with
  | bad => rw [hx] at po; exact po.elim
  | exc c => rw [hx] at po; exact po
  | ok d =>
    rw [hx, Res.bind_ok] at po
    intro v H1 G1 L1 st nd fr ow
    refine ⟨G1, Γ, st.s, ev.mono st.g, ?_⟩
    cases hy : ms Γ with
    | bad => rw [hy] at po; exact po.elim
    | exc c => rw [hy] at po; exact fun H' t => po H' (st.h.trans t)
    | ok ds =>
      rw [hy, Res.bind_ok] at po
      intro vs H2 G2 L2 st2 nd2 fr2 ow2
      refine po (v :: vs) H2 G2 (L1 ++ L2) (st.trans st2) (two_nd nd nd2 ow.there fun a ha => (fr2 a ha).1) (fun a ha => ?_) ⟨v, vs, L1, L2, rfl, rfl, ow.mono st2.h st2.g, ow2⟩
      rcases List.mem_append.mp ha with ha | ha
      · exact ⟨(fr a ha).1, apart st2 ow.there (fun b hb => (fr b hb).2) a ha⟩
      · exact ⟨none_back st.h (fr2 a ha).1, (fr2 a ha).2⟩
def mLst (ms : Ev → Res (List Dt)) : Mr := fun Γ => (ms Γ).bind fun ds => guardR (decide (ds.length ≤ 16777216)) (.ok (.lst ds))
def mTup (ms : Ev → Res (List Dt)) : Mr := fun Γ => (ms Γ).bind fun ds => guardR (decide (ds.length ≤ 16777216)) (.ok (.tup ds))
theorem guard_pos {K : PySem.W.Frag} {cm : Nat → Value} {E : XK} {n : Nat} {H G : Hp} {b : Bool} {r : Res (List Dt)} {Q : List V → Hp → Prop} (po : Posts K cm E n H G (guardR b r) Q) : b = true ∧ Posts K cm E n H G r Q := by
  cases b with
  | true => exact ⟨rfl, po⟩
  | false => exact (show False from po).elim
/-- a new object laid on owned items -/
theorem Post.lay {K : PySem.W.Frag} {E : XK} {H G H1 G1 : Hp} {ds : List Dt} {vs : List V} {L : List Addr} {p : Addr} {Q : VK} (po : Post K cm E (n + 1) H G (.ok (.lst ds)) Q) (st : Stp H G H1 G1) (nd : L.Nodup) (fr : ∀ a ∈ L, H a = none ∧ G1 a = none)
    (ow : Ows (Ow K H1 G1 n) ds vs L) (np : H1 p = none) : Q (.ref p) (upd H1 p (.lst vs)) := by
  have hth := Ows.there (H := H1) (fun d v L o => Ow.there o) ow
  have hpL : p ∉ L := fun h => by obtain ⟨o, e⟩ := hth p h; rw [np] at e; cases e
  have st2 : Stp H1 G1 (upd H1 p (.lst vs)) G1 := .newH st.s np _
  refine po (.ref p) _ G1 (p :: L) (st.trans st2) (List.nodup_cons.mpr ⟨hpL, nd⟩) (fun a ha => ?_) ⟨p, vs, L, rfl, upd_same, rfl, ow.mono fun d v L o => o.mono st2.h st2.g⟩
  rcases List.mem_cons.mp ha with rfl | ha
  · exact ⟨none_back st.h np, none_back st.s np⟩
  · exact fr a ha
theorem Post.layT {K : PySem.W.Frag} {E : XK} {H G H1 G1 : Hp} {ds : List Dt} {vs : List V} {L : List Addr} {p : Addr} {Q : VK} (po : Post K cm E (n + 1) H G (.ok (.tup ds)) Q) (st : Stp H G H1 G1) (nd : L.Nodup) (fr : ∀ a ∈ L, H a = none ∧ G1 a = none)
    (ow : Ows (Ow K H1 G1 n) ds vs L) (np : H1 p = none) : Q (.ref p) (upd H1 p (.tup vs)) := by
  have hth := Ows.there (H := H1) (fun d v L o => Ow.there o) ow
  have hpL : p ∉ L := fun h => by obtain ⟨o, e⟩ := hth p h; rw [np] at e; cases e
  have st2 : Stp H1 G1 (upd H1 p (.tup vs)) G1 := .newH st.s np _
  refine po (.ref p) _ G1 (p :: L) (st.trans st2) (List.nodup_cons.mpr ⟨hpL, nd⟩) (fun a ha => ?_) ⟨p, vs, L, rfl, upd_same, rfl, ow.mono fun d v L o => o.mono st2.h st2.g⟩
  rcases List.mem_cons.mp ha with rfl | ha
  · exact ⟨none_back st.h np, none_back st.s np⟩
  · exact fr a ha
theorem de_lst (h : DA X cm E n es ms) : DE X cm E (n + 1) (.List es pos) (mLst ms) := by
  refine PE.of (pe_lst h) fun σ H Q ⟨G, Γ, s, ev, po⟩ => ⟨G, Γ, s, ev, ?_⟩
  unfold mLst at po
  cases hx : ms Γ with
  | bad => rw [hx] at po; exact po.elim
  | exc c => rw [hx] at po; exact po
  | ok ds =>
    rw [hx, Res.bind_ok] at po
    obtain ⟨hz, po⟩ := guard_po po
    intro vs H1 G1 L st nd fr ow
    exact ⟨by rw [ow.length, sizeLine_eq]; exact of_decide_eq_true hz, fun p np => po.lay st nd fr ow np⟩
theorem de_tup {k : Nat} (h : DA X cm E n es ms) : DE X cm E (n + 1) (.Tuple es k pos) (mTup ms) := by
  refine PE.of (pe_tup h) fun σ H Q ⟨G, Γ, s, ev, po⟩ => ⟨G, Γ, s, ev, ?_⟩
  unfold mTup at po
  cases hx : ms Γ with
  | bad => rw [hx] at po; exact po.elim
  | exc c => rw [hx] at po; exact po
  | ok ds =>
    rw [hx, Res.bind_ok] at po
    obtain ⟨hz, po⟩ := guard_po po
    intro vs H1 G1 L st nd fr ow
    exact ⟨by rw [ow.length, sizeLine_eq]; exact of_decide_eq_true hz, fun p np => po.layT st nd fr ow np⟩

/-! ### items and slices -/
def fIx : Dt → Dt → Res Dt
  | .lst ds, .int i => match atI ds i with
    | some d => .ok d
    | none => .bad
  | .tup ds, .int i => match atI ds i with
    | some d => .ok d
    | none => .bad
  | .scr ns, .int i => match atI ns i with
    | some d => .ok (.int d)
    | none => .bad
  | _, _ => .bad
theorem atI_map {α β : Type} (f : α → β) (xs : List α) (i : Int) : atI (xs.map f) i = (atI xs i).map f := by
  unfold atI
  rw [List.length_map]
  cases ixN xs.length i with
  | none => rfl
  | some j => rw [Option.bind_some, Option.bind_some, List.getElem?_map]
theorem de_ix (ha : DE X cm E 0 a ma) (hb : DE X cm E 0 b mb) (hs : PlainIx b := by exact fun _ _ => rfl) : DE X cm E 0 (.Subscript a b pos) (mBin fIx ma mb) :=
  PE.of (pe_ix ix_seq ha hb hs) fun σ H Q ⟨G, Γ, s, ev, po⟩ => bin_ok (n := 0) (fun E x y H G d1 d2 Q s r1 r2 po => by
    cases d1 with
    | lst ds => cases d2 with
      | int i =>
        obtain ⟨p, vs, e1, g1, q1⟩ := r1
        have po' : Post X.K cm E 0 H G (match atI ds i with | some d => .ok d | none => .bad) Q := po
        cases hd : atI ds i with
        | none => rw [hd] at po'; exact po'.elim
        | some d =>
          rw [hd] at po'
          obtain ⟨v, h1, h2⟩ := atI_rps q1 hd
          exact .inl ⟨p, vs, i, v, e1, r2, .inl (.inl (s _ _ g1)), h1, po'.here s h2⟩
      | _ => exact (show False from po).elim
    | tup ds => cases d2 with
      | int i =>
        obtain ⟨p, vs, e1, g1, q1⟩ := r1
        have po' : Post X.K cm E 0 H G (match atI ds i with | some d => .ok d | none => .bad) Q := po
        cases hd : atI ds i with
        | none => rw [hd] at po'; exact po'.elim
        | some d =>
          rw [hd] at po'
          obtain ⟨v, h1, h2⟩ := atI_rps q1 hd
          exact .inr (.inl ⟨p, vs, i, v, e1, r2, .inl (.inl (s _ _ g1)), h1, po'.here s h2⟩)
      | _ => exact (show False from po).elim
    | scr ns => cases d2 with
      | int i =>
        obtain ⟨p, e1, g1⟩ := r1
        have po' : Post X.K cm E 0 H G (match atI ns i with | some d => .ok (.int d) | none => .bad) Q := po
        cases hd : atI ns i with
        | none => rw [hd] at po'; exact po'.elim
        | some d =>
          rw [hd] at po'
          exact .inl ⟨p, ns.map V.int, i, .int d, e1, r2, s.seq g1, by rw [atI_map, hd]; rfl, po'.here s rfl⟩
      | _ => exact (show False from po).elim
    | _ => exact (show False from po).elim) s ev po
/-- xs[lo:hi] -/
def cutD (xs : List Dt) (lo hi : Option Int) : List Dt := (xs.drop (HT.sIx xs.length 0 lo)).take (HT.sIx xs.length xs.length hi - HT.sIx xs.length 0 lo)
def fSl (x : Dt) (lo hi : Option Int) : Res Dt := match x with
  | .lst ds => .ok (.lst (cutD ds lo hi))
  | _ => .bad
abbrev Mo := Ev → Res (Option Int)
def oNone : Mo := fun _ => .ok none
def toI (r : Res Dt) : Res (Option Int) := r.bind fun d => match d with
  | .int i => .ok (some i)
  | _ => .bad
def oSome (m : Mr) : Mo := fun Γ => toI (m Γ)
def mSl (m : Mr) (lo hi : Mo) : Mr := fun Γ => (m Γ).bind fun x => (lo Γ).bind fun l => (hi Γ).bind fun h => fSl x l h
def PostO (cm : Nat → Value) (E : XK) (H G : Hp) (r : Res (Option Int)) (Q : Option Int → Hp → Prop) : Prop := match r with
  | .ok b => ∀ H' G', Stp H G H' G' → Q b H'
  | .exc c => ∀ H', Same H H' → E (cm c) none H'
  | .bad => False
def tDO (K : PySem.W.Frag) (cm : Nat → Value) (E : L2.St → XK) (m : Mo) : TO := fun σ H Q => ∃ G Γ, Same G H ∧ EvR K G Γ σ ∧ PostO cm (E σ) H G (m Γ) Q
def DO (X : Cx) (cm : Nat → Value) (E : L2.St → XK) (e : Option Expr) (m : Mo) : Prop := PO X e (tDO X.K cm E m)
theorem PO.of {X : Cx} {e : Option Expr} {t t' : TO} (h : PO X e t) (w : ∀ σ H Q, t' σ H Q → t σ H Q) : PO X e t' := ⟨fun pins s σ H Q I q => h.run pins s σ H Q I (w σ H Q q)⟩
theorem do_none : DO X cm E none oNone := PO.of po_none fun σ H Q ⟨G, Γ, s, ev, po⟩ => po H G (.refl s)
theorem do_some (h : DE X cm E 0 e m) : DO X cm E (some e) (oSome m) := PO.of (po_some h) fun σ H Q ⟨G, Γ, s, ev, po⟩ => by
  refine ⟨G, Γ, s, ev, ?_⟩
  unfold oSome toI at po
  cases hx : m Γ with
  | bad => rw [hx] at po; exact po.elim
  | exc c => rw [hx] at po; exact po
  | ok d =>
    rw [hx, Res.bind_ok] at po
    cases d with
    | int i =>
      intro v H' G' L st nd fr ow
      rw [Ow.zero] at ow
      exact ⟨i, ow.2, po H' G' st⟩
    | _ => exact (show False from po).elim
theorem cut_rps {K : PySem.W.Frag} {G : Hp} {ds : List Dt} {vs : List V} (r : Rps K G ds vs) (lo hi : Option Int) : Rps K G (cutD ds lo hi) (cutV vs lo hi) := by
  unfold cutD cutV
  rw [r.length]
  exact (r.drop _).take _
theorem de_sl {lo hi : Option Expr} {ml mh : Mo} {p2 : Pos} (hn : n ≤ 1) (ha : DE X cm E 0 a ma) (hl : DO X cm E lo ml) (hh : DO X cm E hi mh) : DE X cm E n (.Subscript a (.Slice lo hi none p2) pos) (mSl ma ml mh) := by
  refine PE.of (pe_slice sl_list ha hl hh) fun σ H Q ⟨G, Γ, s, ev, po⟩ => ⟨G, Γ, s, ev, ?_⟩
  unfold mSl at po
  cases hx : ma Γ with
  | bad => rw [hx] at po; exact po.elim
  | exc c => rw [hx] at po; exact po
  | ok d =>
    rw [hx, Res.bind_ok] at po
    intro v H1 G1 L1 st nd fr ow
    rw [Ow.zero] at ow
    refine ⟨G1, Γ, st.s, ev.mono st.g, ?_⟩
    have po1 := po.step st
    cases hy : ml Γ with
    | bad => rw [hy] at po1; exact po1.elim
    | exc c => rw [hy] at po1; exact po1
    | ok l =>
      rw [hy, Res.bind_ok] at po1
      intro H2 G2 st2
      refine ⟨G2, Γ, st2.s, (ev.mono st.g).mono st2.g, ?_⟩
      have po2 := po1.step st2
      cases hw : mh Γ with
      | bad => rw [hw] at po2; exact po2.elim
      | exc c => rw [hw] at po2; exact po2
      | ok h =>
        rw [hw, Res.bind_ok] at po2
        intro H3 G3 st3
        have po3 := po2.step st3
        cases d with
        | lst ds =>
          obtain ⟨p, vs, e1, g1, q1⟩ := ow.2
          refine ⟨p, vs, e1, .inl (.inl (st3.s _ _ (st3.g _ _ (st2.g _ _ g1)))), fun z nz => ?_⟩
          exact po3.list hn st3.s nz (((cut_rps q1 l h).mono st2.g).mono st3.g)
        | _ => exact (show False from po3).elim
def fRev : Dt → Res Dt
  | .lst ds => .ok (.lst ds.reverse)
  | _ => .bad
theorem de_rev {k : Nat} {p1 p2 p3 : Pos} (hn : n ≤ 1) (ha : DE X cm E 0 a ma) : DE X cm E n (.Subscript a (.Slice none none (some (.UnaryOp .USub (.Constant (.int 1) k p1) p2)) p3) pos) (mUn fRev ma) :=
  PE.of (pe_revL ha) fun σ H Q ⟨G, Γ, s, ev, po⟩ => un_ok (n := n) (f := fRev) (r := fun x H1 Q => ∃ a xs, x = .ref a ∧ SqL X.K H1 a xs ∧ ∀ p, H1 p = none → Q (.ref p) (upd H1 p (.lst xs.reverse))) (fun E x H G d1 Q s r1 po => by
    cases d1 with
    | lst ds =>
      obtain ⟨p, vs, e1, g1, q1⟩ := r1
      exact ⟨p, vs, e1, .inl (.inl (s _ _ g1)), fun z nz => po.list hn s nz q1.reverse⟩
    | _ => exact (show False from po).elim) s ev po

/-! ### is, in -/
def fIsN : Dt → Res Dt
  | .non => .ok (.bl true)
  | _ => .ok (.bl false)
def fNotN : Dt → Res Dt
  | .non => .ok (.bl false)
  | _ => .ok (.bl true)
theorem rp_non {K : PySem.W.Frag} {G : Hp} {d : Dt} {v : V} (r : Rp K G d v) : (d = .non ∧ v = .non) ∨ (d ≠ .non ∧ v ≠ .non) := by
  cases d with
  | non => exact .inl ⟨rfl, r⟩
  | bl b => exact .inr ⟨fun q => (nomatch q), fun q => by rw [show v = _ from r] at q; cases q⟩
  | int b => exact .inr ⟨fun q => (nomatch q), fun q => by rw [show v = _ from r] at q; cases q⟩
  | lst b => obtain ⟨a, vs, e, _⟩ := r; exact .inr ⟨fun q => (nomatch q), fun q => by rw [e] at q; cases q⟩
  | tup b => obtain ⟨a, vs, e, _⟩ := r; exact .inr ⟨fun q => (nomatch q), fun q => by rw [e] at q; cases q⟩
  | scr b => obtain ⟨a, e, _⟩ := r; exact .inr ⟨fun q => (nomatch q), fun q => by rw [e] at q; cases q⟩
theorem de_isN {j : Nat} {pos' : Pos} (ha : DE X cm E 0 a ma) : DE X cm E n (.Compare a [.Is] [.Constant .none j pos'] pos) (mUn fIsN ma) :=
  PE.of (pe_cmp (pc_isN ha)) fun σ H Q ⟨G, Γ, s, ev, po⟩ => un_ok (n := n) (f := fIsN) (r := fun x H1 Q => Q (.bl (decide (x = .non))) H1) (fun E x H G d1 Q s r1 po => by
    rcases rp_non r1 with ⟨rfl, rfl⟩ | ⟨h1, h2⟩
    · exact po.scal s rfl rfl
    · rw [decide_eq_false h2]
      have e : fIsN d1 = .ok (.bl false) := by cases d1 <;> first | rfl | exact absurd rfl h1
      rw [e] at po
      exact po.scal s rfl rfl) s ev po
theorem de_notN {j : Nat} {pos' : Pos} (ha : DE X cm E 0 a ma) : DE X cm E n (.Compare a [.IsNot] [.Constant .none j pos'] pos) (mUn fNotN ma) :=
  PE.of (pe_cmp (pc_notN ha)) fun σ H Q ⟨G, Γ, s, ev, po⟩ => un_ok (n := n) (f := fNotN) (r := fun x H1 Q => Q (.bl (!decide (x = .non))) H1) (fun E x H G d1 Q s r1 po => by
    rcases rp_non r1 with ⟨rfl, rfl⟩ | ⟨h1, h2⟩
    · exact po.scal s rfl rfl
    · rw [decide_eq_false h2]
      have e : fNotN d1 = .ok (.bl true) := by cases d1 <;> first | rfl | exact absurd rfl h1
      rw [e] at po
      exact po.scal s rfl rfl) s ev po
theorem dt_of_cmp {op : CmpOp} {r : Mr} (h : DE X cm E 0 (.Compare a [op] [b] pos) r) (pc : ∀ t, PE X (.Compare a [op] [b] pos) t → True) : True := trivial
def fIsB : Dt → Dt → Res Dt
  | .bl i, .bl j => .ok (.bl (decide (i = j)))
  | _, _ => .bad
def fNotB : Dt → Dt → Res Dt
  | .bl i, .bl j => .ok (.bl (!decide (i = j)))
  | _, _ => .bad
theorem isBI : ∀ (Em : XK) (x y : V) (H G : Hp) (d1 d2 : Dt) (Q : VK), Same G H → Rp X.K G d1 x → Rp X.K G d2 y → Post X.K cm Em n H G (fIsB d1 d2) Q → rIsB x y H Q := fun Em x y H G d1 d2 Q s r1 r2 po => by
  cases d1 with
  | bl i => cases d2 with
    | bl j => exact ⟨i, j, r1, r2, po.scal s rfl rfl⟩
    | _ => exact (show False from po).elim
  | _ => exact (show False from po).elim
theorem notBI : ∀ (Em : XK) (x y : V) (H G : Hp) (d1 d2 : Dt) (Q : VK), Same G H → Rp X.K G d1 x → Rp X.K G d2 y → Post X.K cm Em n H G (fNotB d1 d2) Q → rNotB x y H Q := fun Em x y H G d1 d2 Q s r1 r2 po => by
  cases d1 with
  | bl i => cases d2 with
    | bl j => exact ⟨i, j, r1, r2, po.scal s rfl rfl⟩
    | _ => exact (show False from po).elim
  | _ => exact (show False from po).elim
def isI : Dt → Bool
  | .int _ => true
  | _ => false
def fIn : Dt → Dt → Res Dt
  | x, .lst ds => guardR (deep 6 x && deep 6 (.lst ds)) (.ok (.bl (ds.any fun z => dEq z x)))
  | x, .tup ds => guardR (isI x && ds.all isI) (.ok (.bl (ds.any fun z => dEq z x)))
  | _, _ => .bad
def fNotIn : Dt → Dt → Res Dt
  | x, .lst ds => guardR (deep 6 x && deep 6 (.lst ds)) (.ok (.bl (!ds.any fun z => dEq z x)))
  | x, .tup ds => guardR (isI x && ds.all isI) (.ok (.bl (!ds.any fun z => dEq z x)))
  | _, _ => .bad
theorem any_pys (x : Dt) : ∀ ds : List Dt, (pys ds).any (fun z => PyData.eqv z (py x)) = ds.any fun z => dEq z x
  | [] => rfl
  | d :: ds => by rw [pys, List.any_cons, List.any_cons, any_pys x ds]; rfl
theorem isI_of {K : PySem.W.Frag} {G : Hp} {d : Dt} {v : V} (h : isI d = true) (r : Rp K G d v) : ∃ i, d = .int i ∧ v = .int i := by
  cases d with
  | int i => exact ⟨i, rfl, r⟩
  | _ => simp [isI] at h
theorem ints_in {K : PySem.W.Frag} {G : Hp} {i : Int} : ∀ {ds : List Dt} {vs : List V}, ds.all isI = true → Rps K G ds vs → vs.all flatV = true ∧ inV (.int i) vs = ds.any fun z => dEq z (.int i)
  | [], _, _, r => by rw [show _ = [] from r]; exact ⟨rfl, rfl⟩
  | d :: ds, _, h, ⟨v, r, e, g, q⟩ => by
    rw [List.all_cons, Bool.and_eq_true] at h
    obtain ⟨j, rfl, rfl⟩ := isI_of h.1 g
    obtain ⟨h1, h2⟩ := ints_in (i := i) h.2 q
    rw [e]
    refine ⟨by rw [List.all_cons, h1]; rfl, ?_⟩
    unfold inV at h2 ⊢
    rw [List.any_cons, List.any_cons, h2]
    congr 1
theorem inI (neg : Bool) : True := trivial
theorem inE : ∀ (Em : XK) (x y : V) (H G : Hp) (d1 d2 : Dt) (Q : VK), Same G H → Rp X.K G d1 x → Rp X.K G d2 y → Post X.K cm Em n H G (fIn d1 d2) Q → (rInD X.K x y H Q ∨ rIn X.K false x y H Q) := fun Em x y H G d1 d2 Q s r1 r2 po => by
  cases d2 with
  | lst ds =>
    obtain ⟨hz, po⟩ := guard_po po
    rw [Bool.and_eq_true] at hz
    refine .inl ⟨py d1, pys ds, dp_of s hz.1 r1, by have q := dp_of s hz.2 r2; rwa [py] at q, shaped_deep hz.1, by have q := shaped_deep hz.2; rwa [py] at q, ?_⟩
    rw [any_pys]
    exact po.scal s rfl rfl
  | tup ds =>
    obtain ⟨hz, po⟩ := guard_po po
    rw [Bool.and_eq_true] at hz
    obtain ⟨i, rfl, rfl⟩ := isI_of hz.1 r1
    obtain ⟨p, vs, e, g, q⟩ := r2
    obtain ⟨h1, h2⟩ := ints_in (i := i) hz.2 q
    refine .inr ⟨p, vs, e, .inr (.inl (.inl (s _ _ g))), rfl, h1, ?_⟩
    show Q (.bl (inV (.int i) vs)) H
    rw [h2]
    exact po.scal s rfl rfl
  | _ => cases d1 <;> exact (show False from po).elim
theorem notInE : ∀ (Em : XK) (x y : V) (H G : Hp) (d1 d2 : Dt) (Q : VK), Same G H → Rp X.K G d1 x → Rp X.K G d2 y → Post X.K cm Em n H G (fNotIn d1 d2) Q → (rNotInD X.K x y H Q ∨ rIn X.K true x y H Q) := fun Em x y H G d1 d2 Q s r1 r2 po => by
  cases d2 with
  | lst ds =>
    obtain ⟨hz, po⟩ := guard_po po
    rw [Bool.and_eq_true] at hz
    refine .inl ⟨py d1, pys ds, dp_of s hz.1 r1, by have q := dp_of s hz.2 r2; rwa [py] at q, shaped_deep hz.1, by have q := shaped_deep hz.2; rwa [py] at q, ?_⟩
    rw [any_pys]
    exact po.scal s rfl rfl
  | tup ds =>
    obtain ⟨hz, po⟩ := guard_po po
    rw [Bool.and_eq_true] at hz
    obtain ⟨i, rfl, rfl⟩ := isI_of hz.1 r1
    obtain ⟨p, vs, e, g, q⟩ := r2
    obtain ⟨h1, h2⟩ := ints_in (i := i) hz.2 q
    refine .inr ⟨p, vs, e, .inr (.inl (.inl (s _ _ g))), rfl, h1, ?_⟩
    show Q (.bl (!inV (.int i) vs)) H
    rw [h2]
    exact po.scal s rfl rfl
  | _ => cases d1 <;> exact (show False from po).elim
variable (ha : DE X cm E 0 a ma) (hb : DE X cm E 0 b mb)
include ha hb
theorem de_isB : DE X cm E n (.Compare a [.Is] [b] pos) (mBin fIsB ma mb) := de_cmp op_isBl isBI ha hb (nomark _)
theorem de_notB : DE X cm E n (.Compare a [.IsNot] [b] pos) (mBin fNotB ma mb) := de_cmp op_notBl notBI ha hb (nomark _)
theorem dt_isB : DT X cm E (.Compare a [.Is] [b] pos) (mTest (mBin fIsB ma mb)) := dt_cmp op_isBl isBI ha hb (nomark _)
theorem dt_notB : DT X cm E (.Compare a [.IsNot] [b] pos) (mTest (mBin fNotB ma mb)) := dt_cmp op_notBl notBI ha hb (nomark _)
theorem de_in (hu : X.A.units + 65 < cLine) (hm : behindInMarks .In b = false := by rfl) : DE X cm E n (.Compare a [.In] [b] pos) (mBin fIn ma mb) := de_cmp ((op_inD hu).or op_in_seq) inE ha hb hm
theorem de_notIn (hu : X.A.units + 65 < cLine) (hm : behindInMarks .NotIn b = false := by rfl) : DE X cm E n (.Compare a [.NotIn] [b] pos) (mBin fNotIn ma mb) := de_cmp ((op_notInD hu).or op_notIn_seq) notInE ha hb hm
theorem dt_in (hu : X.A.units + 65 < cLine) (hm : behindInMarks .In b = false := by rfl) : DT X cm E (.Compare a [.In] [b] pos) (mTest (mBin fIn ma mb)) := dt_cmp ((op_inD hu).or op_in_seq) inE ha hb hm
theorem dt_notIn (hu : X.A.units + 65 < cLine) (hm : behindInMarks .NotIn b = false := by rfl) : DT X cm E (.Compare a [.NotIn] [b] pos) (mTest (mBin fNotIn ma mb)) := dt_cmp ((op_notInD hu).or op_notIn_seq) notInE ha hb hm
omit ha hb
theorem dt_isN {j : Nat} {pos' : Pos} (ha : DE X cm E 0 a ma) : DT X cm E (.Compare a [.Is] [.Constant .none j pos'] pos) (mTest (mUn fIsN ma)) :=
  PT.of (pt_cmp (pc_isN ha)) fun σ H Q ⟨G, Γ, s, ev, po⟩ => un_ok (n := 0) (f := fIsN) (r := fun x H1 Q => Q (.bl (decide (x = .non))) H1) (fun E x H G d1 Q s r1 po => by
    rcases rp_non r1 with ⟨rfl, rfl⟩ | ⟨h1, h2⟩
    · exact po.scal s rfl rfl
    · rw [decide_eq_false h2]
      have e : fIsN d1 = .ok (.bl false) := by cases d1 <;> first | rfl | exact absurd rfl h1
      rw [e] at po
      exact po.scal s rfl rfl) s ev (test_ok po)
theorem dt_notN {j : Nat} {pos' : Pos} (ha : DE X cm E 0 a ma) : DT X cm E (.Compare a [.IsNot] [.Constant .none j pos'] pos) (mTest (mUn fNotN ma)) :=
  PT.of (pt_cmp (pc_notN ha)) fun σ H Q ⟨G, Γ, s, ev, po⟩ => un_ok (n := 0) (f := fNotN) (r := fun x H1 Q => Q (.bl (!decide (x = .non))) H1) (fun E x H G d1 Q s r1 po => by
    rcases rp_non r1 with ⟨rfl, rfl⟩ | ⟨h1, h2⟩
    · exact po.scal s rfl rfl
    · rw [decide_eq_false h2]
      have e : fNotN d1 = .ok (.bl true) := by cases d1 <;> first | rfl | exact absurd rfl h1
      rw [e] at po
      exact po.scal s rfl rfl) s ev (test_ok po)

/-! ### and, or, not, chains -/
def bAnd (m u : Ev → Res Bool) : Ev → Res Bool := fun Γ => (m Γ).bind fun c => if c = true then u Γ else .ok false
def bOr (m u : Ev → Res Bool) : Ev → Res Bool := fun Γ => (m Γ).bind fun c => if c = true then .ok true else u Γ
def bNot (m : Ev → Res Bool) : Ev → Res Bool := fun Γ => (m Γ).bind fun c => .ok (!c)
variable {ta tb : Ev → Res Bool} {rest : List Expr}
theorem dw_and1 (h : DT X cm E a ta) : DW X cm E (.BoolOp .And [a] pos) ta := pw_and1 h
theorem dw_or1 (h : DT X cm E a ta) : DW X cm E (.BoolOp .Or [a] pos) ta := pw_or1 h
theorem dw_and (h : DT X cm E a ta) (hb : DW X cm E (.BoolOp .And (b :: rest) pos) tb) : DW X cm E (.BoolOp .And (a :: b :: rest) pos) (bAnd ta tb) := by
  refine PW.of (pw_and h hb) fun σ H Q ⟨G, Γ, s, ev, po⟩ => ⟨G, Γ, s, ev, ?_⟩
  unfold bAnd at po
  cases hx : ta Γ with
  | bad => rw [hx] at po; exact po.elim
  | exc c => rw [hx] at po; exact po
  | ok c =>
    rw [hx, Res.bind_ok] at po
    intro H1 G1 st
    have po1 := po.step st
    cases c with
    | true => exact ⟨G1, Γ, st.s, ev.mono st.g, po1⟩
    | false => exact po1 H1 G1 (.refl st.s)
theorem dw_or (h : DT X cm E a ta) (hb : DW X cm E (.BoolOp .Or (b :: rest) pos) tb) : DW X cm E (.BoolOp .Or (a :: b :: rest) pos) (bOr ta tb) := by
  refine PW.of (pw_or h hb) fun σ H Q ⟨G, Γ, s, ev, po⟩ => ⟨G, Γ, s, ev, ?_⟩
  unfold bOr at po
  cases hx : ta Γ with
  | bad => rw [hx] at po; exact po.elim
  | exc c => rw [hx] at po; exact po
  | ok c =>
    rw [hx, Res.bind_ok] at po
    intro H1 G1 st
    have po1 := po.step st
    cases c with
    | false => exact ⟨G1, Γ, st.s, ev.mono st.g, po1⟩
    | true => exact po1 H1 G1 (.refl st.s)
theorem DW.dt (h : DW X cm E e ta) : DT X cm E e ta := PW.pt h
theorem dt_not (h : DT X cm E a ta) : DT X cm E (.UnaryOp .Not a pos) (bNot ta) := by
  refine PT.of (pt_not h) fun σ H Q ⟨G, Γ, s, ev, po⟩ => ⟨G, Γ, s, ev, ?_⟩
  unfold bNot at po
  cases hx : ta Γ with
  | bad => rw [hx] at po; exact po.elim
  | exc c => rw [hx] at po; exact po
  | ok c => rw [hx, Res.bind_ok] at po; exact po
/-- as values -/
def mAnd (ma mb : Mr) : Mr := fun Γ => (ma Γ).bind fun d => match d with
  | .bl true => mb Γ
  | .bl false => .ok (.bl false)
  | _ => .bad
def mOr (ma mb : Mr) : Mr := fun Γ => (ma Γ).bind fun d => match d with
  | .bl true => .ok (.bl true)
  | .bl false => mb Γ
  | _ => .bad
def fNot : Dt → Res Dt
  | .bl b => .ok (.bl (!b))
  | _ => .bad
theorem de_one {op : BoolOp} (h : DE X cm E n a ma) : DE X cm E n (.BoolOp op [a] pos) ma := pe_one h
theorem de_and (h : DE X cm E 0 a ma) (hb : DE X cm E n (.BoolOp .And (b :: rest) pos) mb) : DE X cm E n (.BoolOp .And (a :: b :: rest) pos) (mAnd ma mb) := by
  refine PE.of (pe_and h hb) fun σ H Q ⟨G, Γ, s, ev, po⟩ => ⟨G, Γ, s, ev, ?_⟩
  unfold mAnd at po
  cases hx : ma Γ with
  | bad => rw [hx] at po; exact po.elim
  | exc c => rw [hx] at po; exact po
  | ok d =>
    rw [hx, Res.bind_ok] at po
    intro v H1 G1 L st _ _ ow
    rw [Ow.zero] at ow
    have po1 := po.step st
    cases d with
    | bl c =>
      refine ⟨c, ow.2, ?_⟩
      cases c with
      | true => exact ⟨G1, Γ, st.s, ev.mono st.g, po1⟩
      | false => exact po1.scal st.s rfl rfl
    | _ => exact (show False from po1).elim
theorem de_or (h : DE X cm E 0 a ma) (hb : DE X cm E n (.BoolOp .Or (b :: rest) pos) mb) : DE X cm E n (.BoolOp .Or (a :: b :: rest) pos) (mOr ma mb) := by
  refine PE.of (pe_or h hb) fun σ H Q ⟨G, Γ, s, ev, po⟩ => ⟨G, Γ, s, ev, ?_⟩
  unfold mOr at po
  cases hx : ma Γ with
  | bad => rw [hx] at po; exact po.elim
  | exc c => rw [hx] at po; exact po
  | ok d =>
    rw [hx, Res.bind_ok] at po
    intro v H1 G1 L st _ _ ow
    rw [Ow.zero] at ow
    have po1 := po.step st
    cases d with
    | bl c =>
      refine ⟨c, ow.2, ?_⟩
      cases c with
      | false => exact ⟨G1, Γ, st.s, ev.mono st.g, po1⟩
      | true => exact po1.scal st.s rfl rfl
    | _ => exact (show False from po1).elim
theorem de_not (h : DE X cm E 0 a ma) : DE X cm E n (.UnaryOp .Not a pos) (mUn fNot ma) :=
  PE.of (pe_not h) fun σ H Q ⟨G, Γ, s, ev, po⟩ => un_ok (n := n) (f := fNot) (r := fun x H1 Q => ∃ c, x = .bl c ∧ Q (.bl (!c)) H1) (fun E x H G d1 Q s r1 po => by
    cases d1 with
    | bl b => exact ⟨b, r1, po.scal s rfl rfl⟩
    | _ => exact (show False from po).elim) s ev po
end
end DL

set_option Elab.async false
set_option linter.all false
set_option maxRecDepth 100000
set_option maxHeartbeats 1000000
namespace DL
open PySem PySem.Spec PyProof.Rows L2

section
variable {X : Cx} {cm : Nat → Value} {E : L2.St → XK} {n : Nat} {a b c e : Expr} {es : List Expr} {ma mb mc m : Mr} {ms : Ev → Res (List Dt)} {pos p : Pos}

/-! ### a chain of two <= -/
def mChain (ma mb mc : Mr) : Mr := fun Γ => (ma Γ).bind fun x => (mb Γ).bind fun y => (fLe x y).bind fun k => match k with
  | .bl true => (mc Γ).bind fun z => fLe y z
  | .bl false => .ok (.bl false)
  | _ => .bad
theorem chain_ok {K : PySem.W.Frag} {σ : L2.St} {H G : Hp} {Γ : Ev} {Q : VK} (s : Same G H) (ev : EvR K G Γ σ) (po : Post K cm (E σ) n H G (mChain ma mb mc Γ) Q) :
    tChain (rI0 fun i j => V.bl (decide (i ≤ j))) (rI0 fun i j => V.bl (decide (i ≤ j))) (tD K cm E 0 ma) (tD K cm E 0 mb) (tD K cm E 0 mc) σ H Q := by
  refine ⟨G, Γ, s, ev, ?_⟩
  unfold mChain at po
  cases hx : ma Γ with
  | bad => rw [hx] at po; exact po.elim
  | exc c => rw [hx] at po; exact po
  | ok x =>
    rw [hx, Res.bind_ok] at po
    intro v H1 G1 L st _ _ ow
    rw [Ow.zero] at ow
    refine ⟨G1, Γ, st.s, ev.mono st.g, ?_⟩
    have po1 := po.step st
    cases hy : mb Γ with
    | bad => rw [hy] at po1; exact po1.elim
    | exc c => rw [hy] at po1; exact po1
    | ok y =>
      rw [hy, Res.bind_ok] at po1
      intro v2 H2 G2 L2 st2 _ _ ow2
      rw [Ow.zero] at ow2
      have po2 := po1.step st2
      cases x with
      | int i => cases y with
        | int j =>
          rw [show fLe (.int i) (.int j) = .ok (.bl (decide (i ≤ j))) from rfl, Res.bind_ok] at po2
          refine ⟨i, j, ow.2, ow2.2, decide (i ≤ j), rfl, ?_⟩
          cases hk : decide (i ≤ j) with
          | false => rw [hk] at po2; exact ite_ff (po2.scal st2.s rfl rfl)
          | true =>
            rw [hk] at po2
            refine ite_tt ⟨G2, Γ, st2.s, (ev.mono st.g).mono st2.g, ?_⟩
            have po3 : Post K cm (E σ) n H2 G2 ((mc Γ).bind fun z => fLe (.int j) z) Q := po2
            cases hz : mc Γ with
            | bad => rw [hz] at po3; exact po3.elim
            | exc c => rw [hz] at po3; exact po3
            | ok z =>
              rw [hz, Res.bind_ok] at po3
              intro v3 H3 G3 L3 st3 _ _ ow3
              rw [Ow.zero] at ow3
              have po4 := po3.step st3
              cases z with
              | int k => exact ⟨j, k, ow2.2, ow3.2, po4.scal st3.s rfl rfl⟩
              | _ => exact (show False from po4).elim
        | _ => exact (show False from po2).elim
      | _ => exact (show False from po2).elim
theorem de_chain (ha : DE X cm E 0 a ma) (hb : DE X cm E 0 b mb) (hc : DE X cm E 0 c mc) (hm : lastMarks [.LtE, .LtE] [b, c] = false := by with_unfolding_all rfl) : DE X cm E n (.Compare a [.LtE, .LtE] [b, c] pos) (mChain ma mb mc) :=
  PE.of (pe_chain op_le op_le ha hb hc hm) fun σ H Q ⟨G, Γ, s, ev, po⟩ => chain_ok s ev po
theorem dt_chain (ha : DE X cm E 0 a ma) (hb : DE X cm E 0 b mb) (hc : DE X cm E 0 c mc) (hm : lastMarks [.LtE, .LtE] [b, c] = false := by with_unfolding_all rfl) : DT X cm E (.Compare a [.LtE, .LtE] [b, c] pos) (mTest (mChain ma mb mc)) :=
  PT.of (pt_chain op_le op_le ha hb hc hm) fun σ H Q ⟨G, Γ, s, ev, po⟩ => chain_ok s ev (test_ok po)

/-! ### calls of built-ins -/
def mCall (f : List Dt → Res Dt) (ms : Ev → Res (List Dt)) : Mr := fun Γ => (ms Γ).bind f
/-- what a rule for values asks, from data -/
def CallD (X : Cx) (cm : Nat → Value) (n : Nat) (r : List V → Hp → VK → Prop) (f : List Dt → Res Dt) : Prop :=
  ∀ (Em : XK) (vs : List V) (H G : Hp) (ds : List Dt) (Q : VK), Same G H → Rps X.K G ds vs → Post X.K cm Em n H G (f ds) Q → r vs H Q
theorem call_ok {r : List V → Hp → VK → Prop} {f : List Dt → Res Dt} {σ : L2.St} {H G : Hp} {Γ : Ev} {Q : VK} (hf : CallD X cm n r f)
    (s : Same G H) (ev : EvR X.K G Γ σ) (po : Post X.K cm (E σ) n H G (mCall f ms Γ) Q) : tCB r (tDs X.K cm E 0 ms) σ H Q := by
  refine ⟨G, Γ, s, ev, ?_⟩
  unfold mCall at po
  cases hx : ms Γ with
  | bad => rw [hx] at po; exact po.elim
  | exc c => rw [hx] at po; exact po
  | ok ds =>
    rw [hx, Res.bind_ok] at po
    intro vs H1 G1 L st _ _ ow
    obtain ⟨_, ow⟩ := Ows.zero_of ow
    exact hf (E σ) vs H1 G1 ds Q st.s ow (po.step st)
theorem de_callB {r : List V → Hp → VK → Prop} {f : List Dt → Res Dt} {id : String} {x : Str} (hf : CallD X cm n r f) (hc : CallR X (.builtin id) r) (hg : Gl X x) (hm : X.mg x = none) (hv : bootBuiltins x = some (.builtin id)) (ha : DA X cm E 0 (e :: es) ms)
    (hn : x ≠ "__name__" := by decide) (hdb : (x == ("__debug__" : Str)) = false := by decide)
    (he : starEach (e :: es) X.env = (false, eval e X.env) :: starEach es X.env := by rfl) (hpl : (backTo pos (starEach es X.env)).any (·.1) = false := by rfl) : DE X cm E n (.Call (.Name x p) (e :: es) [] pos) (mCall f ms) :=
  PE.of (pe_callB hc hg hm hv ha hn hdb he hpl) fun σ H Q ⟨G, Γ, s, ev, po⟩ => call_ok hf s ev po
theorem de_callT {r : List V → Hp → VK → Prop} {f : List Dt → Res Dt} {id : String} {x : Str} (hf : CallD X cm n r f) (hc : CallR X (.type id) r) (hg : Gl X x) (hm : X.mg x = none) (hv : bootBuiltins x = some (.type id)) (ha : DA X cm E 0 (e :: es) ms)
    (hn : x ≠ "__name__" := by decide) (hdb : (x == ("__debug__" : Str)) = false := by decide)
    (he : starEach (e :: es) X.env = (false, eval e X.env) :: starEach es X.env := by rfl) (hpl : (backTo pos (starEach es X.env)).any (·.1) = false := by rfl) : DE X cm E n (.Call (.Name x p) (e :: es) [] pos) (mCall f ms) :=
  PE.of (pe_callTy hc hg hm hv ha hn hdb he hpl) fun σ H Q ⟨G, Γ, s, ev, po⟩ => call_ok hf s ev po
theorem rps1 {K : PySem.W.Frag} {G : Hp} {d : Dt} {vs : List V} (r : Rps K G [d] vs) : ∃ v, vs = [v] ∧ Rp K G d v := by
  obtain ⟨v, t, e, g, q⟩ := r
  exact ⟨v, by rw [e, show t = [] from q], g⟩
theorem rps2 {K : PySem.W.Frag} {G : Hp} {d d' : Dt} {vs : List V} (r : Rps K G [d, d'] vs) : ∃ v w, vs = [v, w] ∧ Rp K G d v ∧ Rp K G d' w := by
  obtain ⟨v, t, e, g, q⟩ := r
  obtain ⟨w, rfl, h⟩ := rps1 q
  exact ⟨v, w, e, g, h⟩

/-- len -/
def fLen : List Dt → Res Dt
  | [.lst ds] => .ok (.int ds.length)
  | [.tup ds] => .ok (.int ds.length)
  | [.scr ns] => .ok (.int ns.length)
  | _ => .bad
theorem lenD : CallD X cm n (fun xs H Q => ∃ p ys, xs = [.ref p] ∧ (SqL X.K H p ys ∨ SqT X.K H p ys) ∧ Q (.int ys.length) H) fLen := fun Em vs H G ds Q s r po => by
  match ds, r, po with
  | [], r, po => exact (show False from po).elim
  | [.lst ds], r, po =>
    obtain ⟨v, rfl, a, us, e, g, q⟩ := rps1 r
    refine ⟨a, us, by rw [e], .inl (.inl (.inl (s _ _ g))), ?_⟩
    rw [q.length]
    exact po.scal s rfl rfl
  | [.tup ds], r, po =>
    obtain ⟨v, rfl, a, us, e, g, q⟩ := rps1 r
    refine ⟨a, us, by rw [e], .inr (.inl (.inl (s _ _ g))), ?_⟩
    rw [q.length]
    exact po.scal s rfl rfl
  | [.scr ns], r, po =>
    obtain ⟨v, rfl, a, e, g⟩ := rps1 r
    refine ⟨a, ns.map V.int, by rw [e], .inl (s.seq g), ?_⟩
    rw [List.length_map]
    exact po.scal s rfl rfl
  | [.non], r, po => exact (show False from po).elim
  | [.bl b], r, po => exact (show False from po).elim
  | [.int i], r, po => exact (show False from po).elim
  | d :: d' :: t, r, po => exact (show False from (by cases d <;> exact po)).elim
theorem de_len (hm : X.mg "len" = none) (ha : DE X cm E 0 e m) (hg : Gl X "len" := by rfl) (he : starEach [e] X.env = (false, eval e X.env) :: starEach [] X.env := by rfl) (hpl : (backTo pos (starEach [] X.env)).any (·.1) = false := by rfl) :
    DE X cm E n (.Call (.Name "len" p) [e] [] pos) (mCall fLen (mCons m mNil)) :=
  de_callB lenD call_len_seq hg hm PySem.boot_len (da_cons ha da_nil he) (by decide) (by decide) he hpl

/-- the ints of a list -/
def ints? : List Dt → Option (List Int)
  | [] => some []
  | .int i :: ds => (ints? ds).map (i :: ·)
  | _ :: _ => none
theorem ints?_some : ∀ {ds : List Dt} {ns : List Int}, ints? ds = some ns → ds = ns.map Dt.int
  | [], ns, h => by cases h; rfl
  | .int i :: ds, ns, h => by
    unfold ints? at h
    obtain ⟨ms, h1, rfl⟩ := Option.map_eq_some_iff.mp h
    rw [ints?_some h1]; rfl
  | .non :: ds, ns, h => by cases h
  | .bl _ :: ds, ns, h => by cases h
  | .lst _ :: ds, ns, h => by cases h
  | .tup _ :: ds, ns, h => by cases h
  | .scr _ :: ds, ns, h => by cases h
@[simp] theorem ints?_map : ∀ ns : List Int, ints? (ns.map Dt.int) = some ns
  | [] => rfl
  | n :: ns => by rw [List.map_cons, ints?, ints?_map ns]; rfl
def bls? : List Dt → Option (List Bool)
  | [] => some []
  | .bl i :: ds => (bls? ds).map (i :: ·)
  | _ :: _ => none
theorem bls?_some : ∀ {ds : List Dt} {ns : List Bool}, bls? ds = some ns → ds = ns.map Dt.bl
  | [], ns, h => by cases h; rfl
  | .bl i :: ds, ns, h => by
    unfold bls? at h
    obtain ⟨ms, h1, rfl⟩ := Option.map_eq_some_iff.mp h
    rw [bls?_some h1]; rfl
  | .non :: ds, ns, h => by cases h
  | .int _ :: ds, ns, h => by cases h
  | .lst _ :: ds, ns, h => by cases h
  | .tup _ :: ds, ns, h => by cases h
  | .scr _ :: ds, ns, h => by cases h
@[simp] theorem bls?_map : ∀ ns : List Bool, bls? (ns.map Dt.bl) = some ns
  | [] => rfl
  | n :: ns => by rw [List.map_cons, bls?, bls?_map ns]; rfl
/-- a function of one list of ints -/
def fInts (g : List Int → Res Dt) : List Dt → Res Dt
  | [.lst ds] => match ints? ds with
    | some ns => g ns
    | none => .bad
  | _ => .bad
theorem fInts_cases {g : List Int → Res Dt} {ds : List Dt} {P : Prop} (h : fInts g ds = .bad → P) (h2 : ∀ ns, ds = [.lst (ns.map Dt.int)] → fInts g ds = g ns → P) : P := by
  match ds, h, h2 with
  | [], h, _ => exact h rfl
  | [.lst ds], h, h2 =>
    cases e : ints? ds with
    | none => exact h (by unfold fInts; simp only [e])
    | some ns => exact h2 ns (by rw [ints?_some e]) (by unfold fInts; simp only [e])
  | [.non], h, _ => exact h rfl
  | [.bl _], h, _ => exact h rfl
  | [.int _], h, _ => exact h rfl
  | [.tup _], h, _ => exact h rfl
  | [.scr _], h, _ => exact h rfl
  | d :: d' :: t, h, _ => exact h (by cases d <;> rfl)
theorem intsD {r : List V → Hp → VK → Prop} {g : List Int → Res Dt} (hr : ∀ (Em : XK) (a : Addr) (ns : List Int) (H G : Hp) (Q : VK), Same G H → H a = some (.lst (ns.map V.int)) → Post X.K cm Em n H G (g ns) Q → r [.ref a] H Q) : CallD X cm n r (fInts g) := fun Em vs H G ds Q s rr po => by
  refine fInts_cases (g := g) (ds := ds) (fun h => ?_) fun ns e h => ?_
  · rw [h] at po; exact po.elim
  · subst e
    rw [h] at po
    obtain ⟨v, rfl, a, us, e, ga, q⟩ := rps1 rr
    rw [q.ints] at ga
    subst e
    exact hr Em a ns H G Q s (s _ _ ga) po
def fSum : List Dt → Res Dt := fInts fun ns => .ok (.int ns.sum)
theorem sumD : CallD X cm n (rSum X.K) fSum := intsD fun Em a ns H G Q s h po => ⟨a, ns, rfl, .inl (.inl h), po.scal s rfl rfl⟩
theorem de_sum (hc : X.calm = true) (hm : X.mg "sum" = none) (ha : DE X cm E 0 e m) (hg : Gl X "sum" := by rfl) (he : starEach [e] X.env = (false, eval e X.env) :: starEach [] X.env := by rfl) (hpl : (backTo pos (starEach [] X.env)).any (·.1) = false := by rfl) :
    DE X cm E n (.Call (.Name "sum" p) [e] [] pos) (mCall fSum (mCons m mNil)) :=
  de_callB sumD (cr_sum hc) hg hm boot_sum (da_cons ha da_nil he) (by decide) (by decide) he hpl
def insI (x : Int) : List Int → List Int
  | [] => [x]
  | y :: l => if x ≤ y then x :: y :: l else y :: insI x l
def sortI : List Int → List Int
  | [] => []
  | x :: l => insI x (sortI l)
theorem insI_perm (x : Int) : ∀ l : List Int, (insI x l).Perm (x :: l)
  | [] => List.Perm.refl _
  | y :: l => by
    unfold insI
    split
    · exact List.Perm.refl _
    · exact ((insI_perm x l).cons y).trans (List.Perm.swap x y l)
theorem sortI_perm : ∀ ns : List Int, (sortI ns).Perm ns
  | [] => List.Perm.refl _
  | x :: l => (insI_perm x (sortI l)).trans ((sortI_perm l).cons x)
theorem insI_sorted (x : Int) : ∀ l : List Int, l.Pairwise (· ≤ ·) → (insI x l).Pairwise (· ≤ ·)
  | [], _ => List.pairwise_singleton _ _
  | y :: l, h => by
    obtain ⟨h1, h2⟩ := List.pairwise_cons.mp h
    unfold insI
    split
    · rename_i q
      exact List.pairwise_cons.mpr ⟨fun z hz => (List.mem_cons.mp hz).elim (fun e => e ▸ q) fun hz => Int.le_trans q (h1 z hz), h⟩
    · rename_i q
      refine List.pairwise_cons.mpr ⟨fun z hz => ?_, insI_sorted x l h2⟩
      rcases List.mem_cons.mp ((insI_perm x l).mem_iff.mp hz) with e | e
      · subst e; omega
      · exact h1 z e
theorem sortI_sorted : ∀ ns : List Int, (sortI ns).Pairwise (· ≤ ·)
  | [] => List.Pairwise.nil
  | x :: l => insI_sorted x _ (sortI_sorted l)
theorem sorted_unique {xs ys : List Int} (p : xs.Perm ys) (h1 : xs.Pairwise (· ≤ ·)) (h2 : ys.Pairwise (· ≤ ·)) : xs = ys :=
  p.eq_of_pairwise (fun a b _ _ h1 h2 => Int.le_antisymm h1 h2) h1 h2
theorem sortI_eq {xs ys : List Int} (p : xs.Perm ys) (h : xs.Pairwise (· ≤ ·)) : xs = sortI ys := sorted_unique (p.trans (sortI_perm ys).symm) h (sortI_sorted ys)
def fSorted : List Dt → Res Dt := fInts fun ns => .ok (.lst ((sortI ns).map Dt.int))
theorem sortedD (hn : n ≤ 1) : CallD X cm n (rSortedI X.K) fSorted := intsD fun Em a ns H G Q s h po => ⟨a, ns, rfl, .inl (.inl h), fun ns' p pm so np => by
  rw [sortI_eq pm so]
  exact po.list hn s np Rps.of_ints⟩
theorem de_sorted (hn : n ≤ 1) (hm : X.mg "sorted" = none) (ha : DE X cm E 0 e m) (hg : Gl X "sorted" := by rfl) (he : starEach [e] X.env = (false, eval e X.env) :: starEach [] X.env := by rfl) (hpl : (backTo pos (starEach [] X.env)).any (·.1) = false := by rfl) :
    DE X cm E n (.Call (.Name "sorted" p) [e] [] pos) (mCall fSorted (mCons m mNil)) :=
  de_callB (sortedD hn) cr_sortedI hg hm boot_sorted (da_cons ha da_nil he) (by decide) (by decide) he hpl
/-- all of a list of bools -/
def fAll : List Dt → Res Dt
  | [.lst ds] => match bls? ds with
    | some bs => .ok (.bl (bs.all id))
    | none => .bad
  | _ => .bad
theorem allD : CallD X cm n (rAll X.K) fAll := fun Em vs H G ds Q s rr po => by
  have key : ∀ ds, (∃ us bs, ds = [.lst us] ∧ bls? us = some bs) ∨ fAll ds = .bad := by
    intro ds
    match ds with
    | [] => exact .inr rfl
    | [.lst us] =>
      cases e : bls? us with
      | none => exact .inr (by unfold fAll; simp only [e])
      | some bs => exact .inl ⟨us, bs, rfl, e⟩
    | [.non] => exact .inr rfl
    | [.bl _] => exact .inr rfl
    | [.int _] => exact .inr rfl
    | [.tup _] => exact .inr rfl
    | [.scr _] => exact .inr rfl
    | d :: d' :: t => exact .inr (by cases d <;> rfl)
  rcases key ds with ⟨us, bs, rfl, e⟩ | h
  · have po' : Post X.K cm Em n H G (.ok (.bl (bs.all id))) Q := by
      have q : fAll [.lst us] = .ok (.bl (bs.all id)) := by unfold fAll; simp only [e]
      rw [q] at po; exact po
    obtain ⟨v, rfl, a, ws, ev, ga, q⟩ := rps1 rr
    rw [bls?_some e] at q
    rw [q.bls] at ga
    exact ⟨a, bs, by rw [ev], .inl (.inl (s _ _ ga)), po'.scal s rfl rfl⟩
  · rw [h] at po; exact po.elim
theorem de_all (hc : X.calm = true) (hm : X.mg "all" = none) (ha : DE X cm E 0 e m) (hg : Gl X "all" := by rfl) (he : starEach [e] X.env = (false, eval e X.env) :: starEach [] X.env := by rfl) (hpl : (backTo pos (starEach [] X.env)).any (·.1) = false := by rfl) :
    DE X cm E n (.Call (.Name "all" p) [e] [] pos) (mCall fAll (mCons m mNil)) :=
  de_callB allD (cr_all hc) hg hm boot_all (da_cons ha da_nil he) (by decide) (by decide) he hpl
/-- list(xs) -/
def fList : List Dt → Res Dt
  | [.lst ds] => .ok (.lst ds)
  | [.tup ds] => .ok (.lst ds)
  | _ => .bad
theorem listD (hn : n ≤ 1) : CallD X cm n (fun xs H Q => ∃ p ys, xs = [.ref p] ∧ (SqL X.K H p ys ∨ SqT X.K H p ys) ∧ ∀ l, H l = none → Q (.ref l) (upd H l (.lst ys))) fList := fun Em vs H G ds Q s r po => by
  match ds, r, po with
  | [], r, po => exact (show False from po).elim
  | [.lst ds], r, po =>
    obtain ⟨v, rfl, a, us, e, g, q⟩ := rps1 r
    exact ⟨a, us, by rw [e], .inl (.inl (.inl (s _ _ g))), fun l nl => po.list hn s nl q⟩
  | [.tup ds], r, po =>
    obtain ⟨v, rfl, a, us, e, g, q⟩ := rps1 r
    exact ⟨a, us, by rw [e], .inr (.inl (.inl (s _ _ g))), fun l nl => po.list hn s nl q⟩
  | [.scr ns], r, po => exact (show False from po).elim
  | [.non], r, po => exact (show False from po).elim
  | [.bl b], r, po => exact (show False from po).elim
  | [.int i], r, po => exact (show False from po).elim
  | d :: d' :: t, r, po => exact (show False from (by cases d <;> exact po)).elim
theorem de_list (hn : n ≤ 1) (hm : X.mg "list" = none) (ha : DE X cm E 0 e m) (hg : Gl X "list" := by rfl) (he : starEach [e] X.env = (false, eval e X.env) :: starEach [] X.env := by rfl) (hpl : (backTo pos (starEach [] X.env)).any (·.1) = false := by rfl) :
    DE X cm E n (.Call (.Name "list" p) [e] [] pos) (mCall fList (mCons m mNil)) :=
  de_callT (listD hn) call_list_of hg hm PyProof.Rows.boot_list (da_cons ha da_nil he) (by decide) (by decide) he hpl
/-- int(flag), int(n) -/
def fInt : List Dt → Res Dt
  | [.int i] => .ok (.int i)
  | [.bl k] => .ok (.int (if k then 1 else 0))
  | _ => .bad
theorem intD : CallD X cm n (fun xs H Q => (∃ i, xs = [.int i] ∧ Q (.int i) H) ∨ ∃ k, xs = [.bl k] ∧ Q (.int (if k then 1 else 0)) H) fInt := fun Em vs H G ds Q s r po => by
  match ds, r, po with
  | [], r, po => exact (show False from po).elim
  | [.int i], r, po =>
    obtain ⟨v, rfl, e⟩ := rps1 r
    exact .inl ⟨i, by rw [show v = _ from e], po.scal s rfl rfl⟩
  | [.bl k], r, po =>
    obtain ⟨v, rfl, e⟩ := rps1 r
    exact .inr ⟨k, by rw [show v = _ from e], po.scal s rfl rfl⟩
  | [.lst ns], r, po => exact (show False from po).elim
  | [.tup ns], r, po => exact (show False from po).elim
  | [.scr ns], r, po => exact (show False from po).elim
  | [.non], r, po => exact (show False from po).elim
  | d :: d' :: t, r, po => exact (show False from (by cases d <;> exact po)).elim
theorem de_toint (hm : X.mg "int" = none) (ha : DE X cm E 0 e m) (hg : Gl X "int" := by rfl) (he : starEach [e] X.env = (false, eval e X.env) :: starEach [] X.env := by rfl) (hpl : (backTo pos (starEach [] X.env)).any (·.1) = false := by rfl) :
    DE X cm E n (.Call (.Name "int" p) [e] [] pos) (mCall fInt (mCons m mNil)) :=
  de_callT intD call_int1 hg hm PyProof.Rows.boot_int (da_cons ha da_nil he) (by decide) (by decide) he hpl

/-! ### list(range(..)) -/
def rgD (a b : Int) : List Int := (List.range (b - a).toNat).map fun i : Nat => a + (i : Int)
theorem rgV_eq (a b : Int) : rgV a b = (rgD a b).map V.int := by
  unfold rgV rgD
  rw [List.map_map]
  rfl
def okRg (a b : Int) : Bool := decide (-(2 ^ 62) ≤ a) && decide (a < 2 ^ 62) && decide (-(2 ^ 62) ≤ b) && decide (b < 2 ^ 62) && decide ((b - a).toNat ≤ 16777216)
theorem okRg_of {a b : Int} (h : okRg a b = true) : RgOk a b := by
  unfold okRg at h
  simp only [Bool.and_eq_true, decide_eq_true_eq] at h
  exact ⟨h.1.1.1.1, h.1.1.1.2, h.1.1.2, h.1.2, h.2⟩
def fRg (x y : Dt) : Res (List Int) := match x, y with
  | .int a, .int b => guardR (okRg a b) (.ok (rgD a b))
  | _, _ => .bad
def mRg (ma mb : Mr) : Ev → Res (List Int) := fun Γ => (ma Γ).bind fun x => (mb Γ).bind fun y => fRg x y
def mLstRg (ma mb : Mr) : Mr := fun Γ => (mRg ma mb Γ).bind fun ns => .ok (.lst (ns.map Dt.int))
theorem guard_gen {α : Type} {b : Bool} {r : Res α} {a : α} (h : guardR b r = .ok a) : b = true ∧ r = .ok a := by
  cases b with
  | true => exact ⟨rfl, h⟩
  | false => cases h
theorem de_lstRg1 (hn : n ≤ 1) (hc : X.calm = true) (hm : X.mg "list" = none) (hm2 : X.mg "range" = none) (ha : DE X cm E 0 a ma) {p1 p2 pos1 : Pos} (hg : Gl X "list" := by rfl) (hg2 : Gl X "range" := by rfl)
    (na : starEach [.Call (.Name "range" p1) [a] [] p2] X.env = (false, eval (.Call (.Name "range" p1) [a] [] p2) X.env) :: starEach [] X.env := by rfl) (nb : starEach [a] X.env = (false, eval a X.env) :: starEach [] X.env := by rfl) :
    DE X cm E n (.Call (.Name "list" p) [.Call (.Name "range" p1) [a] [] p2] [] pos) (mLstRg (mC (.int 0)) ma) := by
  refine PE.of (pe_listRg hc hg hm (prg_1 hg2 hm2 ha nb) na) fun σ H Q ⟨G, Γ, s, ev, po⟩ => ⟨G, Γ, s, ev, ?_⟩
  unfold mLstRg mRg mC at po
  rw [Res.bind_ok] at po
  cases hx : ma Γ with
  | bad => rw [hx] at po; exact po.elim
  | exc c => rw [hx] at po; exact po
  | ok x =>
    rw [hx, Res.bind_ok] at po
    intro v H1 G1 L st _ _ ow
    rw [Ow.zero] at ow
    have po1 := po.step st
    cases x with
    | int b =>
      refine ⟨b, ow.2, ?_⟩
      cases hk : okRg 0 b with
      | false => rw [show fRg (.int 0) (.int b) = .bad by show guardR (okRg 0 b) _ = _; rw [hk]; rfl] at po1; exact po1.elim
      | true =>
        rw [show fRg (.int 0) (.int b) = .ok (rgD 0 b) by show guardR (okRg 0 b) _ = _; rw [hk]; rfl] at po1
        refine ⟨okRg_of hk, fun q nq => ?_⟩
        rw [rgV_eq]
        exact po1.list hn st.s nq Rps.of_ints
    | _ => exact (show False from po1).elim
theorem de_lstRg2 (hn : n ≤ 1) (hc : X.calm = true) (hm : X.mg "list" = none) (hm2 : X.mg "range" = none) (ha : DE X cm E 0 a ma) (hb : DE X cm E 0 b mb) {p1 p2 : Pos} (hg : Gl X "list" := by rfl) (hg2 : Gl X "range" := by rfl)
    (na : starEach [.Call (.Name "range" p1) [a, b] [] p2] X.env = (false, eval (.Call (.Name "range" p1) [a, b] [] p2) X.env) :: starEach [] X.env := by rfl) (nb : starEach [a, b] X.env = (false, eval a X.env) :: starEach [b] X.env := by rfl) (nc : (backTo p2 (starEach [b] X.env)).any (·.1) = false := by rfl) (nd : starEach [b] X.env = (false, eval b X.env) :: starEach [] X.env := by rfl) :
    DE X cm E n (.Call (.Name "list" p) [.Call (.Name "range" p1) [a, b] [] p2] [] pos) (mLstRg ma mb) := by
  refine PE.of (pe_listRg hc hg hm (prg_2 hg2 hm2 ha hb nb nd nc) na) fun σ H Q ⟨G, Γ, s, ev, po⟩ => ⟨G, Γ, s, ev, ?_⟩
  unfold mLstRg mRg at po
  cases hx : ma Γ with
  | bad => rw [hx] at po; exact po.elim
  | exc c => rw [hx] at po; exact po
  | ok x =>
    rw [hx, Res.bind_ok] at po
    intro v H1 G1 L st _ _ ow
    rw [Ow.zero] at ow
    have po1 := po.step st
    refine ⟨G1, Γ, st.s, ev.mono st.g, ?_⟩
    cases hy : mb Γ with
    | bad => rw [hy] at po1; exact po1.elim
    | exc c => rw [hy] at po1; exact po1
    | ok y =>
      rw [hy, Res.bind_ok] at po1
      intro v2 H2 G2 L2 st2 _ _ ow2
      rw [Ow.zero] at ow2
      have po2 := po1.step st2
      cases x with
      | int a => cases y with
        | int b =>
          refine ⟨a, b, ow.2, ow2.2, ?_⟩
          cases hk : okRg a b with
          | false => rw [show fRg (.int a) (.int b) = .bad by show guardR (okRg a b) _ = _; rw [hk]; rfl] at po2; exact po2.elim
          | true =>
            rw [show fRg (.int a) (.int b) = .ok (rgD a b) by show guardR (okRg a b) _ = _; rw [hk]; rfl] at po2
            refine ⟨okRg_of hk, fun q nq => ?_⟩
            rw [rgV_eq]
            exact po2.list hn st2.s nq Rps.of_ints
        | _ => exact (show False from po2).elim
      | _ => exact (show False from po2).elim
end
end DL

set_option Elab.async false
set_option linter.all false
set_option maxRecDepth 100000
set_option maxHeartbeats 1000000
namespace DL
open PySem PySem.Spec PyProof.Rows L2

/-! ### calls of the program's own defs -/
def noX {α : Type} : Res α → Res α
  | .ok a => .ok a
  | _ => .bad
@[simp] theorem noX_ok {α : Type} (a : α) : noX (.ok a) = .ok a := rfl
@[simp] theorem noX_exc {α : Type} (c : Nat) : noX (.exc c : Res α) = .bad := rfl
@[simp] theorem noX_bad {α : Type} : noX (.bad : Res α) = .bad := rfl
/-- a def's promise: its mirror f of k arguments; nr: how deep its answer is its own -/
def spD (K : PySem.W.Frag) (cm : Nat → Value) (k nr : Nat) (f : List Dt → Res Dt) : Sp := fun vs H Q E => ∃ ds G, ds.length = k ∧ Same G H ∧ Rps K G ds vs ∧ Post K cm E nr H G (f ds) Q
theorem Post.noX {K : PySem.W.Frag} {cm : Nat → Value} {E E' : XK} {n : Nat} {H G : Hp} {r : Res Dt} {Q : VK} (po : Post K cm E n H G (noX r) Q) : Post K cm E' n H G r Q := by
  cases r with
  | ok d => exact po
  | exc c => exact (show False from po).elim
  | bad => exact (show False from po).elim

section
variable {X : Cx} {cm : Nat → Value} {E : L2.St → XK} {n : Nat} {a b c e : Expr} {es : List Expr} {ma mb mc m : Mr} {ms : Ev → Res (List Dt)} {pos p : Pos}
variable {CXf : CXT} {k nr : Nat} {f : Addr} {fd : FuncData} {ps : List Str} {mf : List Dt → Res Dt} {x : Str}
def mFn (mf : List Dt → Res Dt) (k : Nat) (ms : Ev → Res (List Dt)) : Mr := fun Γ => (ms Γ).bind fun ds => guardR (decide (ds.length = k)) (mf ds)
def mFnN (mf : List Dt → Res Dt) (k : Nat) (ms : Ev → Res (List Dt)) : Mr := fun Γ => (ms Γ).bind fun ds => guardR (decide (ds.length = k)) (noX (mf ds))
/-- a def that raises nothing here -/
theorem de_fnN {j : Nat} (F : FnOk X.prog X.w X.K X.mg X.base (L2.CX X.prog X.w) j f fd ps (spD X.K cm k nr mf)) (hr : Room j X.A) (hm : X.mg x = some (.ref f)) (hk : PySem.W.keepIn X.K (.ref f) = true) (hb : Binds X.K fd ps []) (ha : DA X cm E 0 (e :: es) ms)
    (hg : Gl X x := by rfl) (hdb : (x == ("__debug__" : Str)) = false := by decide) (he : starEach (e :: es) X.env = (false, eval e X.env) :: starEach es X.env := by rfl) (hpl : (backTo pos (starEach es X.env)).any (·.1) = false := by rfl) :
    DE X cm E nr (.Call (.Name x p) (e :: es) [] pos) (mFnN mf k ms) := by
  refine PE.of (pe_call F hr hg hm hk hb .nil passL ha hdb he hpl) fun σ H Q ⟨G, Γ, s, ev, po⟩ => ⟨G, Γ, s, ev, ?_⟩
  unfold mFnN at po
  cases hx : ms Γ with
  | bad => rw [hx] at po; exact po.elim
  | exc c => rw [hx] at po; exact po
  | ok ds =>
    rw [hx, Res.bind_ok] at po
    intro vs H1 G1 L st _ _ ow
    obtain ⟨_, ow⟩ := Ows.zero_of ow
    obtain ⟨hl, po⟩ := guard_po po
    refine ⟨ds, G1, of_decide_eq_true hl, st.s, by rw [List.append_nil]; exact ow, (po.step st).noX⟩
/-- a def that may raise what this place takes -/
theorem de_fn {j : Nat} (F : FnOk X.prog X.w X.K X.mg X.base (L2.CX X.prog X.w) j f fd ps (spD X.K cm k nr mf)) (hr : Room j X.A) (hm : X.mg x = some (.ref f)) (hk : PySem.W.keepIn X.K (.ref f) = true) (hb : Binds X.K fd ps []) (hx : ∀ σ, PassesAt (L2.CX X.prog X.w) X σ (E σ)) (ha : DA X cm E 0 (e :: es) ms)
    (hg : Gl X x := by rfl) (hdb : (x == ("__debug__" : Str)) = false := by decide) (he : starEach (e :: es) X.env = (false, eval e X.env) :: starEach es X.env := by rfl) (hpl : (backTo pos (starEach es X.env)).any (·.1) = false := by rfl) :
    DE X cm E nr (.Call (.Name x p) (e :: es) [] pos) (mFn mf k ms) := by
  refine PE.of (pe_callS F hr hg hm hk hb hx ha hdb he hpl) fun σ H Q ⟨G, Γ, s, ev, po⟩ => ⟨G, Γ, s, ev, ?_⟩
  unfold mFn at po
  cases hx : ms Γ with
  | bad => rw [hx] at po; exact po.elim
  | exc c => rw [hx] at po; exact po
  | ok ds =>
    rw [hx, Res.bind_ok] at po
    intro vs H1 G1 L st _ _ ow
    obtain ⟨_, ow⟩ := Ows.zero_of ow
    obtain ⟨hl, po⟩ := guard_po po
    exact ⟨ds, G1, of_decide_eq_true hl, st.s, ow, po.step st⟩
/-- .. without arguments -/
def mFn0 (mf : List Dt → Res Dt) : Mr := fun _ => noX (mf [])
theorem de_fn0 {j : Nat} (F : FnOk X.prog X.w X.K X.mg X.base (L2.CX X.prog X.w) j f fd ps (spD X.K cm 0 nr mf)) (hr : Room j X.A) (hm : X.mg x = some (.ref f)) (hk : PySem.W.keepIn X.K (.ref f) = true) (hb : Binds X.K fd ps [])
    (hg : Gl X x := by rfl) (hdb : (x == ("__debug__" : Str)) = false := by decide) : DE X cm E nr (.Call (.Name x p) [] [] pos) (mFn0 mf) := by
  refine PE.of (pe_call0 F hr hg hm hk hb .nil passL hdb) fun σ H Q ⟨G, Γ, s, ev, po⟩ => ?_
  show spD X.K cm 0 nr mf ([] ++ []) H Q E0
  exact ⟨[], G, rfl, s, rfl, (show Post X.K cm (E σ) nr H G (noX (mf [])) Q from po).noX⟩

/-! ### isinstance of a built-in type -/
def tyOf : Dt → Option String
  | .non => some "NoneType"
  | .bl _ => some "bool"
  | .int _ => some "int"
  | .lst _ => some "list"
  | .tup _ => some "tuple"
  | .scr _ => none
def fIsi (T : String) (d : Dt) : Res Dt := match tyOf d with
  | some t => match kitB t T with
    | some b => .ok (.bl b)
    | none => .bad
  | none => .bad
theorem de_isi {T : Str} {T' : String} {p2 : Pos} (hm : X.mg "isinstance" = none) (hmT : X.mg T = none) (hv : bootBuiltins T = some (.type T')) (ha : DE X cm E 0 e m) (hg : Gl X "isinstance" := by rfl) (hgT : Gl X T := by rfl) (hn : T ≠ "__name__" := by decide) (hd : (T == ("__debug__" : Str)) = false := by decide)
    (he : starEach [e, .Name T p2] X.env = (false, eval e X.env) :: starEach [.Name T p2] X.env := by rfl) (he2 : starEach [.Name T p2] X.env = (false, eval (.Name T p2) X.env) :: starEach [] X.env := by rfl) (hpl : (backTo pos (starEach [.Name T p2] X.env)).any (·.1) = false := by rfl) :
    DE X cm E n (.Call (.Name "isinstance" p) [e, .Name T p2] [] pos) (mUn (fIsi T') m) := by
  refine PE.of (pe_callB call_isi hg hm boot_isinstance (pa_cons ha (pa_cons (pe_bltn (v := .ty T') hgT hmT hv rfl hn hd) pa_nil he2) he) (by decide) (by decide) he hpl) fun σ H Q ⟨G, Γ, s, ev, po⟩ => ?_
  refine un_ok (n := n) (f := fIsi T') (r := fun x H1 Q => rIsi X.K [x, .ty T'] H1 Q) (fun Em x H G d Q s r1 po => ?_) s ev po
  have key : ∀ t, tyOf d = some t → TyX X.K H x (.type t) := by
    intro t ht
    cases d with
    | non => cases ht; rw [show x = _ from r1]; exact .base .non
    | bl b => cases ht; rw [show x = _ from r1]; exact .base (.bl b)
    | int b => cases ht; rw [show x = _ from r1]; exact .base (.int b)
    | lst ds => cases ht; obtain ⟨a, vs, rfl, g, _⟩ := r1; exact .base (.lst (s _ _ g))
    | tup ds => cases ht; obtain ⟨a, vs, rfl, g, _⟩ := r1; exact .base (.tup (s _ _ g))
    | scr ns => cases ht
  unfold fIsi at po
  cases ht : tyOf d with
  | none => rw [ht] at po; exact po.elim
  | some t =>
    rw [ht] at po
    dsimp only at po
    cases hb : kitB t T' with
    | none => rw [hb] at po; exact po.elim
    | some b =>
      rw [hb] at po
      exact ⟨x, .ty T', .type t, .type T', b, rfl, .ty T', key t ht, kit_ty hb, po.scal s rfl rfl⟩
end

/-! ### what is walked -/
def setAll (σ : L2.St) : List Nat → List V → L2.St
  | i :: is, v :: vs => setAll (σ.set i (some v)) is vs
  | _, _ => σ
def bindAll (Γ : Ev) : List Nat → List Dt → Ev
  | i :: is, d :: ds => bindAll (Γ.set i (some d)) is ds
  | _, _ => Γ
structure Src (K : PySem.W.Frag) (J : It) (g : TG) (slots : List Nat) (rows : List (List Dt)) (G : Hp) : Prop where
  stop : ∀ H, Same G H → J.stop rows.length H
  go : ∀ i H, Same G H → i < rows.length → J.go i H
  bind : ∀ i H x H' σ Q ds, Same G H → rows[i]? = some ds → J.yld i H x H' → (∀ vs H2, Same H H2 → Rps K G ds vs → Q (setAll σ slots vs) H2) → g x σ H' Q
  len : ∀ r ∈ rows, r.length = slots.length
theorem Src.mono {K : PySem.W.Frag} {J : It} {g : TG} {slots : List Nat} {rows : List (List Dt)} {G G' : Hp} (S : Src K J g slots rows G) (h : Same G G') : Src K J g slots rows G' :=
  ⟨fun H s => S.stop H (h.trans s), fun i H s => S.go i H (h.trans s), fun i H x H' σ Q ds s e y q => S.bind i H x H' σ Q ds (h.trans s) e y fun vs H2 s2 r => q vs H2 s2 (r.mono h), S.len⟩
def PostI (K : PySem.W.Frag) (cm : Nat → Value) (E : XK) (g : TG) (slots : List Nat) (H G : Hp) (r : Res (List (List Dt))) (R : It → Hp → Prop) : Prop := match r with
  | .ok rows => ∀ J H1 G1, Stp H G H1 G1 → Src K J g slots rows G1 → R J H1
  | .exc c => ∀ H', Same H H' → E (cm c) none H'
  | .bad => False
theorem PostI.step {K : PySem.W.Frag} {cm : Nat → Value} {E : XK} {g : TG} {slots : List Nat} {H G H1 G1 : Hp} {r : Res (List (List Dt))} {R : It → Hp → Prop} (po : PostI K cm E g slots H G r R) (st : Stp H G H1 G1) : PostI K cm E g slots H1 G1 r R := by
  cases r with
  | ok rows => exact fun J H2 G2 t S => po J H2 G2 (st.trans t) S
  | exc c => exact fun H' t => po H' (st.h.trans t)
  | bad => exact po
abbrev Mi := Ev → Res (List (List Dt))
def tDI (K : PySem.W.Frag) (cm : Nat → Value) (E : L2.St → XK) (g : TG) (slots : List Nat) (m : Mi) : TI := fun σ H R => ∃ G Γ, Same G H ∧ EvR K G Γ σ ∧ PostI K cm (E σ) g slots H G (m Γ) R
def DI (X : Cx) (cm : Nat → Value) (E : L2.St → XK) (tg iter : Expr) (g : TG) (slots : List Nat) (m : Mi) : Prop := PI X tg iter (tDI X.K cm E g slots m)
theorem PI.of {X : Cx} {tg iter : Expr} {t t' : TI} (h : PI X tg iter t) (w : ∀ σ H R, t' σ H R → t σ H R) : PI X tg iter t' := ⟨fun pins s σ H R I q => h.run pins s σ H R I (w σ H R q)⟩

def one (d : Dt) : List Dt := [d]
def gTwo (K : PySem.W.Frag) (i j : Nat) : TG := gTup K 2 (gCons (gName i) (gCons (gName j) gNil))
theorem rgD_length (a b : Int) : (rgD a b).length = (b - a).toNat := by unfold rgD; simp
theorem rgD_get {a b : Int} {i : Nat} (h : i < (b - a).toNat) : (rgD a b)[i]? = some (a + i) := by
  unfold rgD
  rw [List.getElem?_map, List.getElem?_range h]
  rfl
/-- a range -/
theorem src_range (K : PySem.W.Frag) (lo hi : Int) (i : Nat) (G : Hp) : Src K (Itr lo (hi - lo).toNat) (gName i) [i] ((rgD lo hi).map fun k => one (.int k)) G := by
  refine ⟨fun H _ => ?_, fun k H _ h => ?_, fun k H x H' σ Q ds s e y q => ?_, fun r hr => ?_⟩
  · show (hi - lo).toNat ≤ _
    rw [List.length_map, rgD_length]; exact Nat.le_refl _
  · rw [List.length_map, rgD_length] at h; exact h
  · obtain ⟨rfl, rfl⟩ := y
    rw [List.getElem?_map] at e
    obtain ⟨z, hz, rfl⟩ := Option.map_eq_some_iff.mp e
    have hlt : k < (hi - lo).toNat := by
      have := (List.getElem?_eq_some_iff.mp hz).1
      rwa [rgD_length] at this
    rw [rgD_get hlt] at hz
    cases hz
    exact q [.int (lo + k)] H' (Same.refl _) ⟨_, _, rfl, rfl, rfl⟩
  · obtain ⟨z, _, rfl⟩ := List.mem_map.mp hr; rfl
/-- a list that stands in the view -/
theorem src_list {K : PySem.W.Frag} {a : Addr} {ds : List Dt} {vs : List V} {i : Nat} {G : Hp} (ha : G a = some (.lst vs)) (r : Rps K G ds vs) : Src K (Itl K a) (gName i) [i] (ds.map one) G := by
  have at_ : ∀ {H}, Same G H → SqL K H a vs := fun s => .inl (.inl (s _ _ ha))
  refine ⟨fun H s => ⟨vs, at_ s, by rw [List.length_map, r.length]; exact Nat.le_refl _⟩, fun k H s h => ?_, fun k H x H' σ Q es s e y q => ?_, fun r hr => ?_⟩
  · rw [List.length_map, ← r.length] at h
    exact ⟨vs, vs[k], at_ s, by simp [h]⟩
  · obtain ⟨rfl, f⟩ := y
    rw [List.getElem?_map] at e
    obtain ⟨z, hz, rfl⟩ := Option.map_eq_some_iff.mp e
    obtain ⟨v, hv, rv⟩ := r.get hz
    have := f vs (at_ s)
    rw [hv] at this
    cases this
    exact q [x] H' (Same.refl _) ⟨_, _, rfl, rv, rfl⟩
  · obtain ⟨z, _, rfl⟩ := List.mem_map.mp hr; rfl
def zipD : List Dt → List Dt → List (List Dt)
  | x :: xs, y :: ys => [x, y] :: zipD xs ys
  | _, _ => []
theorem zipD_length : ∀ xs ys : List Dt, (zipD xs ys).length = min xs.length ys.length
  | [], _ => by simp [zipD]
  | _ :: _, [] => by simp [zipD]
  | x :: xs, y :: ys => by rw [zipD, List.length_cons, zipD_length xs ys, List.length_cons, List.length_cons]; omega
theorem zipD_get : ∀ {xs ys : List Dt} {i : Nat} {r : List Dt}, (zipD xs ys)[i]? = some r → ∃ x y, r = [x, y] ∧ xs[i]? = some x ∧ ys[i]? = some y
  | [], _, _, _, h => by simp [zipD] at h
  | _ :: _, [], _, _, h => by simp [zipD] at h
  | x :: xs, y :: ys, 0, r, h => by simp [zipD] at h; exact ⟨x, y, h.symm, rfl, rfl⟩
  | x :: xs, y :: ys, i + 1, r, h => by
    simp only [zipD, List.getElem?_cons_succ] at h
    obtain ⟨u, v, e, h1, h2⟩ := zipD_get h
    exact ⟨u, v, e, by simpa using h1, by simpa using h2⟩
theorem two_bind {K : PySem.W.Frag} {T : Addr} {x y : V} {i j : Nat} {H : Hp} {σ : L2.St} {Q : L2.St → Hp → Prop} (q : Q (setAll σ [i, j] [x, y]) (upd H T (.tup [x, y]))) : gTwo K i j (.ref T) σ (upd H T (.tup [x, y])) Q :=
  ⟨T, [x, y], rfl, .inl (.inl upd_same), rfl, x, [y], rfl, y, [], rfl, rfl, q⟩
theorem same_new {H : Hp} {p : Addr} {o : HO} (h : H p = none) : Same H (upd H p o) := fun b x e => by
  rw [upd_ne (ne_of_none e h)]
  exact e
theorem src_zip {K : PySem.W.Frag} {a b : Addr} {xs ys : List Dt} {vs ws : List V} {i j : Nat} {G : Hp} (ha : G a = some (.lst vs)) (hb : G b = some (.lst ws)) (r : Rps K G xs vs) (r' : Rps K G ys ws) : Src K (Itz K a b) (gTwo K i j) [i, j] (zipD xs ys) G := by
  have at_ : ∀ {H}, Same G H → SqL K H a vs := fun s => .inl (.inl (s _ _ ha))
  have bt_ : ∀ {H}, Same G H → SqL K H b ws := fun s => .inl (.inl (s _ _ hb))
  have l1 := r.length
  have l2 := r'.length
  refine ⟨fun H s => ⟨vs, ws, at_ s, bt_ s, by rw [zipD_length]; omega⟩, fun k H s h => ?_, fun k H x H' σ Q es s e y q => ?_, fun r hr => ?_⟩
  · rw [zipD_length] at h
    have h1 : k < vs.length := by omega
    have h2 : k < ws.length := by omega
    exact ⟨vs, ws, vs[k], ws[k], at_ s, bt_ s, by simp [h1], by simp [h2]⟩
  · obtain ⟨T, u, w, rfl, nT, rfl, f1, f2⟩ := y
    obtain ⟨d1, d2, rfl, e1, e2⟩ := zipD_get e
    obtain ⟨v1, h1, r1⟩ := r.get e1
    obtain ⟨v2, h2, r2⟩ := r'.get e2
    have q1 := f1 vs (at_ s)
    have q2 := f2 ws (bt_ s)
    rw [h1] at q1
    rw [h2] at q2
    cases q1
    cases q2
    exact two_bind (q [u, w] _ (same_new nT) ⟨_, _, rfl, r1, _, _, rfl, r2, rfl⟩)
  · obtain ⟨k, hk⟩ := List.mem_iff_getElem?.mp hr
    obtain ⟨d1, d2, rfl, _, _⟩ := zipD_get hk
    rfl
def enumD : Nat → List Dt → List (List Dt)
  | _, [] => []
  | k, d :: ds => [.int k, d] :: enumD (k + 1) ds
theorem enumD_length : ∀ (k : Nat) (ds : List Dt), (enumD k ds).length = ds.length
  | _, [] => rfl
  | k, d :: ds => by rw [enumD, List.length_cons, List.length_cons, enumD_length]
theorem enumD_get : ∀ {k : Nat} {ds : List Dt} {i : Nat} {r : List Dt}, (enumD k ds)[i]? = some r → ∃ d, r = [.int (k + i : Nat), d] ∧ ds[i]? = some d
  | _, [], _, _, h => by simp [enumD] at h
  | k, d :: ds, 0, r, h => by simp [enumD] at h; exact ⟨d, by rw [← h]; rfl, rfl⟩
  | k, d :: ds, i + 1, r, h => by
    simp only [enumD, List.getElem?_cons_succ] at h
    obtain ⟨u, e, h1⟩ := enumD_get h
    exact ⟨u, by rw [e, show k + 1 + i = k + (i + 1) by omega], by simpa using h1⟩
theorem src_enum {K : PySem.W.Frag} {a : Addr} {ds : List Dt} {vs : List V} {i j : Nat} {G : Hp} (ha : G a = some (.lst vs)) (r : Rps K G ds vs) : Src K (Ite K a) (gTwo K i j) [i, j] (enumD 0 ds) G := by
  have at_ : ∀ {H}, Same G H → SqL K H a vs := fun s => .inl (.inl (s _ _ ha))
  have l1 := r.length
  refine ⟨fun H s => ⟨vs, at_ s, by rw [enumD_length]; omega⟩, fun k H s h => ?_, fun k H x H' σ Q es s e y q => ?_, fun r hr => ?_⟩
  · rw [enumD_length] at h
    have h1 : k < vs.length := by omega
    exact ⟨vs, vs[k], at_ s, by simp [h1]⟩
  · obtain ⟨T, u, rfl, nT, rfl, f1⟩ := y
    obtain ⟨d1, rfl, e1⟩ := enumD_get e
    obtain ⟨v1, h1, r1⟩ := r.get e1
    have q1 := f1 vs (at_ s)
    rw [h1] at q1
    cases q1
    exact two_bind (q [.int (k : Nat), u] _ (same_new nT) ⟨_, _, rfl, by rw [Nat.zero_add]; rfl, _, _, rfl, r1, rfl⟩)
  · obtain ⟨k, hk⟩ := List.mem_iff_getElem?.mp hr
    obtain ⟨d1, rfl, _⟩ := enumD_get hk
    rfl

section
variable {X : Cx} {cm : Nat → Value} {E : L2.St → XK} {n : Nat} {a b c e elt tg iter : Expr} {es ifs : List Expr} {ma mb mc m me : Mr} {ms : Ev → Res (List Dt)} {mt : Ev → Res Bool} {pos p pos' : Pos}
def okR (b : Int) : Bool := decide (-(2 ^ 62) ≤ b) && decide (b < 2 ^ 62)
theorem okR_of {b : Int} (h : okR b = true) : -(2 ^ 62) ≤ b ∧ b < 2 ^ 62 := by
  unfold okR at h
  rw [Bool.and_eq_true] at h
  exact ⟨of_decide_eq_true h.1, of_decide_eq_true h.2⟩
def fIRg (x y : Dt) : Res (List (List Dt)) := match x, y with
  | .int a, .int b => guardR (okR a && okR b) (.ok ((rgD a b).map fun k => one (.int k)))
  | _, _ => .bad
def mIRg (ma mb : Mr) : Mi := fun Γ => (ma Γ).bind fun x => (mb Γ).bind fun y => fIRg x y
theorem guard_poI {K : PySem.W.Frag} {cm : Nat → Value} {E : XK} {g : TG} {slots : List Nat} {H G : Hp} {b : Bool} {r : Res (List (List Dt))} {R : It → Hp → Prop} (po : PostI K cm E g slots H G (guardR b r) R) : b = true ∧ PostI K cm E g slots H G r R := by
  cases b with
  | true => exact ⟨rfl, po⟩
  | false => exact (show False from po).elim
theorem di_rg1 {i : Nat} (hm : X.mg "range" = none) (ha : DE X cm E 0 a ma) (hg : Gl X "range" := by rfl) (hs : starEach [a] X.env = [(false, eval a X.env)] := by rfl) :
    DI X cm E tg (.Call (.Name "range" p) [a] [] pos) (gName i) [i] (mIRg (mC (.int 0)) ma) := by
  refine PI.of (pi_range1 hg hm (da_cons (n := 0) ha da_nil hs) hs) fun σ H R ⟨G, Γ, s, ev, po⟩ => ⟨G, Γ, s, ev, ?_⟩
  unfold mIRg mC at po
  rw [Res.bind_ok] at po
  unfold mCons
  cases hx : ma Γ with
  | bad => rw [hx] at po; exact po.elim
  | exc c => rw [hx] at po; exact po
  | ok x =>
    rw [hx, Res.bind_ok] at po
    intro vs H1 G1 L st _ _ ow
    obtain ⟨_, ow⟩ := Ows.zero_of ow
    obtain ⟨v, rfl, ow2⟩ := rps1 ow
    have po1 := po.step st
    cases x with
    | int b =>
      obtain ⟨hk, po1⟩ := guard_poI po1
      rw [Bool.and_eq_true] at hk
      obtain ⟨h1, h2⟩ := okR_of hk.2
      refine ⟨b, by rw [show v = _ from ow2], h1, h2, ?_⟩
      have S := src_range X.K 0 b i G1
      rw [Int.sub_zero] at S
      exact po1 _ H1 G1 (.refl st.s) S
    | _ => exact (show False from po1).elim
theorem di_rg2 {i : Nat} (hm : X.mg "range" = none) (ha : DE X cm E 0 a ma) (hb : DE X cm E 0 b mb) (hg : Gl X "range" := by rfl) (hs : starEach [a, b] X.env = [(false, eval a X.env), (false, eval b X.env)] := by rfl) (hs2 : starEach [b] X.env = [(false, eval b X.env)] := by rfl) :
    DI X cm E tg (.Call (.Name "range" p) [a, b] [] pos) (gName i) [i] (mIRg ma mb) := by
  refine PI.of (pi_range2 hg hm (da_cons (n := 0) ha (da_cons hb da_nil hs2) (by rw [hs, hs2])) hs hs2) fun σ H R ⟨G, Γ, s, ev, po⟩ => ⟨G, Γ, s, ev, ?_⟩
  unfold mIRg at po
  unfold mCons
  cases hx : ma Γ with
  | bad => rw [hx] at po; exact po.elim
  | exc c => rw [hx] at po; exact po
  | ok x =>
    rw [hx, Res.bind_ok] at po
    cases hy : mb Γ with
    | bad => rw [hy] at po; exact po.elim
    | exc c => rw [hy] at po; exact po
    | ok y =>
      rw [hy, Res.bind_ok] at po
      intro vs H1 G1 L st _ _ ow
      obtain ⟨_, ow⟩ := Ows.zero_of ow
      obtain ⟨v, w, rfl, ov, ow2⟩ := rps2 ow
      have po1 := po.step st
      cases x with
      | int a => cases y with
        | int b =>
          obtain ⟨hk, po1⟩ := guard_poI po1
          rw [Bool.and_eq_true] at hk
          obtain ⟨h1, h2⟩ := okR_of hk.1
          obtain ⟨h3, h4⟩ := okR_of hk.2
          exact ⟨a, b, by rw [show v = _ from ov, show w = _ from ow2], ⟨h1, h2, h3, h4⟩, po1 _ H1 G1 (.refl st.s) (src_range X.K a b i G1)⟩
        | _ => exact (show False from po1).elim
      | _ => exact (show False from po1).elim
def fIL : Dt → Res (List (List Dt))
  | .lst ds => .ok (ds.map one)
  | _ => .bad
def mIL (m : Mr) : Mi := fun Γ => (m Γ).bind fIL
theorem di_list {i : Nat} (h : DE X cm E 0 iter m) : DI X cm E tg iter (gName i) [i] (mIL m) := by
  refine PI.of (pi_list h) fun σ H R ⟨G, Γ, s, ev, po⟩ => ⟨G, Γ, s, ev, ?_⟩
  unfold mIL at po
  cases hx : m Γ with
  | bad => rw [hx] at po; exact po.elim
  | exc c => rw [hx] at po; exact po
  | ok x =>
    rw [hx, Res.bind_ok] at po
    intro v H1 G1 L st _ _ ow
    rw [Ow.zero] at ow
    have po1 := po.step st
    cases x with
    | lst ds =>
      obtain ⟨a, vs, e, g, r⟩ := ow.2
      exact ⟨a, e, ⟨vs, .inl (.inl (st.s _ _ g))⟩, po1 _ H1 G1 (.refl st.s) (src_list g r)⟩
    | _ => exact (show False from po1).elim
def fIZ : Dt → Dt → Res (List (List Dt))
  | .lst xs, .lst ys => .ok (zipD xs ys)
  | _, _ => .bad
def mIZ (ma mb : Mr) : Mi := fun Γ => (ma Γ).bind fun x => (mb Γ).bind fun y => fIZ x y
theorem di_zip {i j : Nat} {elts : List Expr} {kk : Nat} {tpos : Pos} (hm : X.mg "zip" = none) (ha : DE X cm E 0 a ma) (hb : DE X cm E 0 b mb) (hg : Gl X "zip" := by rfl)
    (hs : starEach [a, b] X.env = (false, eval a X.env) :: starEach [b] X.env := by rfl) (hs2 : starEach [b] X.env = (false, eval b X.env) :: starEach [] X.env := by rfl) (hpl : (backTo pos (starEach [b] X.env)).any (·.1) = false := by rfl) :
    DI X cm E (.Tuple elts kk tpos) (.Call (.Name "zip" p) [a, b] [] pos) (gTwo X.K i j) [i, j] (mIZ ma mb) := by
  refine PI.of (pi_zip hg hm (da_cons (n := 0) ha (da_cons hb da_nil hs2) hs) hs hpl) fun σ H R ⟨G, Γ, s, ev, po⟩ => ⟨G, Γ, s, ev, ?_⟩
  unfold mIZ at po
  unfold mCons
  cases hx : ma Γ with
  | bad => rw [hx] at po; exact po.elim
  | exc c => rw [hx] at po; exact po
  | ok x =>
    rw [hx, Res.bind_ok] at po
    cases hy : mb Γ with
    | bad => rw [hy] at po; exact po.elim
    | exc c => rw [hy] at po; exact po
    | ok y =>
      rw [hy, Res.bind_ok] at po
      intro vs H1 G1 L st _ _ ow
      obtain ⟨_, ow⟩ := Ows.zero_of ow
      obtain ⟨v, w, rfl, ov, ow2⟩ := rps2 ow
      have po1 := po.step st
      cases x with
      | lst xs => cases y with
        | lst ys =>
          obtain ⟨a, us, e1, g1, r1⟩ := ov
          obtain ⟨b, ws, e2, g2, r2⟩ := ow2
          exact ⟨a, b, us, ws, by rw [e1, e2], .inl (.inl (st.s _ _ g1)), .inl (.inl (st.s _ _ g2)), po1 _ H1 G1 (.refl st.s) (src_zip g1 g2 r1 r2)⟩
        | _ => exact (show False from po1).elim
      | _ => exact (show False from po1).elim
def fIE : Dt → Res (List (List Dt))
  | .lst ds => .ok (enumD 0 ds)
  | _ => .bad
def mIE (m : Mr) : Mi := fun Γ => (m Γ).bind fIE
theorem di_enum {i j : Nat} {elts : List Expr} {kk : Nat} {tpos : Pos} (hm : X.mg "enumerate" = none) (ha : DE X cm E 0 a ma) (hg : Gl X "enumerate" := by rfl) (hs : starEach [a] X.env = [(false, eval a X.env)] := by rfl) :
    DI X cm E (.Tuple elts kk tpos) (.Call (.Name "enumerate" p) [a] [] pos) (gTwo X.K i j) [i, j] (mIE ma) := by
  refine PI.of (pi_enum hg hm (da_cons (n := 0) ha da_nil hs) hs) fun σ H R ⟨G, Γ, s, ev, po⟩ => ⟨G, Γ, s, ev, ?_⟩
  unfold mIE at po
  unfold mCons
  cases hx : ma Γ with
  | bad => rw [hx] at po; exact po.elim
  | exc c => rw [hx] at po; exact po
  | ok x =>
    rw [hx, Res.bind_ok] at po
    intro vs H1 G1 L st _ _ ow
    obtain ⟨_, ow⟩ := Ows.zero_of ow
    obtain ⟨v, rfl, ow2⟩ := rps1 ow
    have po1 := po.step st
    cases x with
    | lst xs =>
      obtain ⟨a, us, e1, g1, r1⟩ := ow2
      exact ⟨a, us, by rw [e1], .inl (.inl (st.s _ _ g1)), po1 _ H1 G1 (.refl st.s) (src_enum g1 r1)⟩
    | _ => exact (show False from po1).elim
end
end DL

set_option Elab.async false
set_option linter.all false
set_option maxRecDepth 100000
set_option maxHeartbeats 1000000
namespace DL
open PySem PySem.Spec PyProof.Rows L2

theorem setAll_length (σ : L2.St) : ∀ (is : List Nat) (vs : List V), (setAll σ is vs).length = σ.length := by
  intro is
  induction is generalizing σ with
  | nil => intro vs; rfl
  | cons i is ih =>
    intro vs
    cases vs with
    | nil => rfl
    | cons v vs => show (setAll (σ.set i (some v)) is vs).length = _; rw [ih, List.length_set]
theorem bindAll_length (Γ : Ev) : ∀ (is : List Nat) (ds : List Dt), (bindAll Γ is ds).length = Γ.length := by
  intro is
  induction is generalizing Γ with
  | nil => intro ds; rfl
  | cons i is ih =>
    intro ds
    cases ds with
    | nil => rfl
    | cons d ds => show (bindAll (Γ.set i (some d)) is ds).length = _; rw [ih, List.length_set]
/-- the slots are bound anew: what they held does not matter -/
theorem EvR.bind {K : PySem.W.Frag} {G : Hp} : ∀ {is : List Nat} {ds : List Dt} {vs : List V} {Γ : Ev} {σ : L2.St},
    (∀ (j : Nat) (d : Dt), j ∉ is → Γ[j]? = some (some d) → ∃ v, σ[j]? = some (some v) ∧ Rp K G d v) → Γ.length = σ.length → Rps K G ds vs → ds.length = is.length → EvR K G (bindAll Γ is ds) (setAll σ is vs) := by
  intro is
  induction is with
  | nil => intro ds vs Γ σ h hl _ _; exact ⟨fun j d e => h j d (by simp) e, hl⟩
  | cons i is ih =>
    intro ds vs Γ σ h hl r hd
    cases ds with
    | nil => cases hd
    | cons d ds =>
      obtain ⟨v, t, rfl, g, q⟩ := r
      show EvR K G (bindAll (Γ.set i (some d)) is ds) (setAll (σ.set i (some v)) is t)
      refine ih (fun j d' hj e => ?_) (by rw [List.length_set, List.length_set]; exact hl) q (Nat.succ.inj hd)
      by_cases hji : i = j
      · subst hji
        by_cases hlt : i < Γ.length
        · rw [List.getElem?_set_self hlt] at e
          cases e
          exact ⟨v, List.getElem?_set_self (by omega), g⟩
        · rw [List.getElem?_eq_none (by rw [List.length_set]; omega)] at e; cases e
      · rw [List.getElem?_set_ne hji] at e ⊢
        exact h j d' (by simp only [List.mem_cons, not_or]; exact ⟨fun z => hji z.symm, hj⟩) e
theorem wipe_get {σ : L2.St} {j : Nat} : ∀ {vs : List Nat}, j ∉ vs → (wipe σ vs)[j]? = σ[j]?
  | [], _ => rfl
  | v :: vs, h => by
    simp only [List.mem_cons, not_or] at h
    unfold wipe
    rw [List.getElem?_set_ne (fun z => h.1 z.symm), wipe_get h.2]
theorem wipe_set {σ : L2.St} {i : Nat} {x : Option V} : ∀ {vs : List Nat}, i ∈ vs → wipe (σ.set i x) vs = wipe σ vs
  | v :: vs, h => by
    unfold wipe
    by_cases hv : i = v
    · subst hv
      by_cases hm : i ∈ vs
      · rw [wipe_set hm]
      · clear h
        have go : ∀ {us : List Nat}, i ∉ us → wipe (σ.set i x) us = (wipe σ us).set i x := by
          intro us
          induction us with
          | nil => intro _; rfl
          | cons u us ih =>
            intro hu
            simp only [List.mem_cons, not_or] at hu
            unfold wipe
            rw [ih hu.2, List.set_comm _ _ hu.1]
        rw [go hm, List.set_set]
    · rcases List.mem_cons.mp h with z | z
      · exact absurd z hv
      · rw [wipe_set z]
theorem wipe_setAll : ∀ {is : List Nat} {us : List V} {σ : L2.St} {vs : List Nat}, (∀ i ∈ is, i ∈ vs) → wipe (setAll σ is us) vs = wipe σ vs := by
  intro is
  induction is with
  | nil => intro us σ vs _; rfl
  | cons i is ih =>
    intro us σ vs h
    cases us with
    | nil => rfl
    | cons u us =>
      show wipe (setAll (σ.set i (some u)) is us) vs = _
      rw [ih fun j hj => h j (List.mem_cons_of_mem _ hj), wipe_set (h i List.mem_cons_self)]
theorem wipe_wipe (σ : L2.St) (vs : List Nat) : wipe (wipe σ vs) vs = wipe σ vs := by
  have go : ∀ us : List Nat, (∀ u ∈ us, u ∈ vs) → wipe (wipe σ us) vs = wipe σ vs := by
    intro us
    induction us with
    | nil => intro _; rfl
    | cons u us ih =>
      intro h
      show wipe ((wipe σ us).set u none) vs = _
      rw [wipe_set (h u List.mem_cons_self), ih fun w hw => h w (List.mem_cons_of_mem _ hw)]
  exact go vs fun u hu => hu

/-! ### list comprehensions -/
def DTs (X : Cx) (cm : Nat → Value) (E : L2.St → XK) (ifs : List Expr) (m : Ev → Res Bool) : Prop := PTs X ifs (tDT X.K cm E m)
theorem PTs.of {X : Cx} {ifs : List Expr} {t t' : TT} (h : PTs X ifs t) (w : ∀ σ H Q, t' σ H Q → t σ H Q) : PTs X ifs t' := ⟨fun pins s σ H Q I q => h.run pins s σ H Q I (w σ H Q q)⟩
def bYes : Ev → Res Bool := fun _ => .ok true
theorem dts_nil {X : Cx} {cm : Nat → Value} {E : L2.St → XK} : DTs X cm E [] bYes := PTs.of pts_nil fun σ H Q ⟨G, Γ, s, ev, po⟩ => po H G (.refl s)
theorem dts_one {X : Cx} {cm : Nat → Value} {E : L2.St → XK} {c : Expr} {m : Ev → Res Bool} (h : DT X cm E c m) : DTs X cm E [c] m := pts_one h
def lcL (slots : List Nat) (mt : Ev → Res Bool) (me : Mr) (Γ : Ev) : List (List Dt) → Res (List Dt)
  | [] => .ok []
  | r :: rs => (noX (mt (bindAll Γ slots r))).bind fun b =>
      if b = true then (noX (me (bindAll Γ slots r))).bind fun d => (lcL slots mt me Γ rs).bind fun ds => .ok (d :: ds)
      else lcL slots mt me Γ rs
def mLc (mi : Mi) (slots : List Nat) (mt : Ev → Res Bool) (me : Mr) : Mr := fun Γ => (mi Γ).bind fun rows => guardR (decide (rows.length ≤ 16777216)) ((lcL slots mt me Γ rows).bind fun ds => .ok (.lst ds))
abbrev Ef : L2.St → XK := fun _ _ _ _ => False
theorem noX_inv {α β : Type} {r : Res α} {f : α → Res β} {b : β} (h : (noX r).bind f = .ok b) : ∃ a, r = .ok a ∧ f a = .ok b := by
  cases r with
  | ok a => exact ⟨a, rfl, h⟩
  | exc c => cases h
  | bad => cases h
theorem bind_inv {α β : Type} {r : Res α} {f : α → Res β} {b : β} (h : r.bind f = .ok b) : ∃ a, r = .ok a ∧ f a = .ok b := by
  cases r with
  | ok a => exact ⟨a, rfl, h⟩
  | exc c => cases h
  | bad => cases h
theorem lcL_exc {slots : List Nat} {mt : Ev → Res Bool} {me : Mr} {Γ : Ev} : ∀ {rows : List (List Dt)} {c : Nat}, lcL slots mt me Γ rows ≠ .exc c
  | [], c, h => by cases h
  | r :: rs, c, h => by
    unfold lcL at h
    cases h1 : mt (bindAll Γ slots r) with
    | bad => rw [h1] at h; cases h
    | exc c => rw [h1] at h; cases h
    | ok b =>
      rw [h1, noX_ok, Res.bind_ok] at h
      cases b with
      | false => rw [if_neg Bool.false_ne_true] at h; exact lcL_exc h
      | true =>
        rw [if_pos rfl] at h
        cases h2 : me (bindAll Γ slots r) with
        | bad => rw [h2] at h; cases h
        | exc c => rw [h2] at h; cases h
        | ok d =>
          rw [h2, noX_ok, Res.bind_ok] at h
          cases h3 : lcL slots mt me Γ rs with
          | bad => rw [h3] at h; cases h
          | exc c => exact lcL_exc h3
          | ok ds => rw [h3] at h; cases h

theorem apart1 {H1 G1 H' G' : Hp} (st : Stp H1 G1 H' G') {a : Addr} {o : HO} (h : H1 a = some o) (g : G1 a = none) : G' a = none := by
  cases e : G' a with
  | none => rfl
  | some u =>
    rcases st.new a u e with ⟨w, q⟩ | q
    · rw [g] at q; cases q
    · rw [h] at q; cases q
/-- a comprehension's list so far: at D, beside the view; what it holds is owned to the depth n -/
structure LcSt (K : PySem.W.Frag) (n : Nat) (H0 G0 : Hp) (D : Addr) (ds : List Dt) (vs : List V) (L : List Addr) (H G : Hp) : Prop where
  st : Stp H0 G0 H G
  d0 : H0 D = none
  at_ : H D = some (.lst vs)
  dg : G D = none
  nd : L.Nodup
  fr : ∀ a ∈ L, H0 a = none ∧ G a = none
  dl : D ∉ L
  ow : Ows (Ow K H G n) ds vs L
section
variable {X : Cx} {cm : Nat → Value} {E : L2.St → XK} {n : Nat} {elt tg iter : Expr} {ifs : List Expr} {me : Mr} {mt : Ev → Res Bool} {mi : Mi} {pos : Pos} {g : TG} {slots : List Nat} {scope : Scope} {own : List (Str × Nat)}
theorem tlc_ok {K : PySem.W.Frag} {σ : L2.St} {H G : Hp} {Γ : Ev} {Q : VK} (hs : own.map (·.2) = slots) (s : Same G H) (ev : EvR K G Γ σ) (po : Post K cm (E σ) (n + 1) H G (mLc mi slots mt me Γ) Q) :
    tLc (tDI K cm E g slots mi) g (tDT K cm Ef mt) (tD K cm Ef n me) (own.map (·.2)) σ H Q := by
  rw [hs]
  refine ⟨G, Γ, s, ev, ?_⟩
  unfold mLc at po
  cases hx : mi Γ with
  | bad => rw [hx] at po; exact po.elim
  | exc c => rw [hx] at po; exact po
  | ok rows =>
    rw [hx, Res.bind_ok] at po
    obtain ⟨hz, po⟩ := guard_po po
    have hz := of_decide_eq_true hz
    cases hall : lcL slots mt me Γ rows with
    | bad => rw [hall] at po; exact po.elim
    | exc c => exact (lcL_exc hall).elim
    | ok full =>
      rw [hall, Res.bind_ok] at po
      intro J H1 G1 st0 S D nD
      have hlen : ∀ r ∈ rows, r.length = slots.length := S.len
      refine ⟨fun i m H => i + m = rows.length ∧ ∃ ds vs L G', LcSt K n H1 G1 D ds vs L H G' ∧ vs.length ≤ i ∧ ∃ rest, lcL slots mt me Γ (rows.drop i) = .ok rest ∧ ds ++ rest = full,
        ⟨rows.length, by omega, [], [], [], G1, ⟨.newH st0.s nD _, nD, upd_same, none_back st0.s nD, List.nodup_nil, fun a ha => (nomatch ha), by simp, rfl, rfl⟩, Nat.le_refl _, full, hall, rfl⟩, ?_⟩
      rintro i m H2 ⟨him, ds, vs, L, G2, B, hvi, rest, hrest, hfull⟩
      have sg : Same G1 G2 := B.st.g
      have S2 := S.mono sg
      by_cases hi : i < rows.length
      · right
        refine ⟨S2.go i H2 B.st.s hi, fun H' => ∃ ds vs L G', LcSt K n H1 G1 D ds vs L H' G' ∧ vs.length ≤ i + 1 ∧ ∃ rest, lcL slots mt me Γ (rows.drop (i + 1)) = .ok rest ∧ ds ++ rest = full, fun H' h' => ⟨m - 1, by omega, by omega, h'⟩, fun x H3 y => ?_⟩
        have hrow : rows[i]? = some rows[i] := List.getElem?_eq_getElem hi
        refine S2.bind i H2 x H3 (wipe σ slots) _ rows[i] B.st.s hrow y fun ws H4 s4 r4 => ⟨by rw [wipe_setAll (fun i hi => hi), wipe_wipe], ?_⟩
        have hd : rows.drop i = rows[i] :: rows.drop (i + 1) := List.drop_eq_getElem_cons hi
        rw [hd] at hrest
        unfold lcL at hrest
        obtain ⟨b, hb, hrest⟩ := noX_inv hrest
        have sG4 : Same G2 H4 := B.st.s.trans s4
        have ev4 : EvR K G2 (bindAll Γ slots rows[i]) (setAll (wipe σ slots) slots ws) :=
          EvR.bind (fun j d hj e => by
            rw [wipe_get hj]
            obtain ⟨v, h1, h2⟩ := ev.at_ j d e
            exact ⟨v, h1, (h2.mono st0.g).mono sg⟩) (by rw [wipe_length]; exact ev.len) r4 (hlen _ (List.getElem_mem hi))
        refine ⟨G2, bindAll Γ slots rows[i], sG4, ev4, ?_⟩
        rw [hb]
        intro H5 G5 st5
        -- behind the test: what was built stands
        have stA : Stp H2 G2 H4 G2 := ⟨s4, Same.refl _, sG4, fun a o e => .inl ⟨o, e⟩⟩
        have stB := stA.trans st5
        have keep : ∀ {H6 G6 : Hp}, Stp H2 G2 H6 G6 → LcSt K n H1 G1 D ds vs L H6 G6 := fun {H6 G6} t =>
          have th : ∀ a ∈ L, ∃ o, H2 a = some o := Ows.there (fun d v L o => Ow.there o) B.ow
          ⟨B.st.trans t, B.d0, t.h _ _ B.at_, apart1 t B.at_ B.dg,
            B.nd, fun a ha => ⟨(B.fr a ha).1, apart t th (fun b hb => (B.fr b hb).2) a ha⟩, B.dl, B.ow.mono fun d v L o => o.mono t.h t.g⟩
        cases b with
        | false =>
          rw [if_neg Bool.false_ne_true] at hrest ⊢
          exact ⟨ds, vs, L, G5, keep stB, by omega, rest, hrest, hfull⟩
        | true =>
          rw [if_pos rfl] at hrest ⊢
          obtain ⟨d, hd2, hrest⟩ := noX_inv hrest
          obtain ⟨rest', hr', he⟩ := bind_inv hrest
          cases he
          refine ⟨G5, bindAll Γ slots rows[i], st5.s, ev4.mono st5.g, ?_⟩
          rw [hd2]
          intro v H6 G6 L6 st6 nd6 fr6 ow6
          have B6 := keep (stB.trans st6)
          have th : ∀ a ∈ L, ∃ o, H5 a = some o := fun a ha => by
            obtain ⟨o, e⟩ := Ows.there (fun d v L o => Ow.there o) B.ow a ha
            exact ⟨o, stB.h _ _ e⟩
          have D5 : H5 D = some (.lst vs) := stB.h _ _ B.at_
          have nL6 : D ∉ L6 := fun h => by rw [(fr6 D h).1] at D5; cases D5
          refine ⟨vs, B6.at_, by rw [sizeLine_eq]; omega, ds ++ [d], vs ++ [v], L ++ L6, G6, ?_, by rw [List.length_append, List.length_singleton]; omega, rest', hr', by rw [List.append_assoc]; exact hfull⟩
          have stw : Same H1 (upd H6 D (.lst (vs ++ [v]))) := fun a o e => by
            rw [upd_ne (ne_of_none e B.d0)]
            exact B6.st.h _ _ e
          have sgw : Same G6 (upd H6 D (.lst (vs ++ [v]))) := fun a o e => by
            have ne : a ≠ D := fun z => by rw [z, B6.dg] at e; cases e
            rw [upd_ne ne]
            exact B6.st.s _ _ e
          have nDL : D ∉ L ++ L6 := fun h => (List.mem_append.mp h).elim B.dl nL6
          refine ⟨⟨stw, B6.st.g, sgw, B6.st.new⟩, B.d0, upd_same, B6.dg, two_nd B.nd nd6 th fun a ha => (fr6 a ha).1, fun a ha => ?_, nDL, ?_⟩
          · rcases List.mem_append.mp ha with ha | ha
            · exact B6.fr a ha
            · exact ⟨none_back B.st.h (none_back stB.h (fr6 a ha).1), (fr6 a ha).2⟩
          · refine Ows.snoc ?_ ?_
            · exact ow6.move (Same.refl _) fun a ha o e => by
                rw [upd_ne (fun z => nL6 (by rw [← z]; exact ha))]; exact e
            · exact B6.ow.monoL fun d v L1 hs o => o.move (Same.refl _) fun a ha u e => by
                rw [upd_ne (fun z => B.dl (by rw [← z]; exact hs a ha))]; exact e
      · left
        have e : i = rows.length := by omega
        subst e
        refine ⟨S2.stop H2 B.st.s, ?_⟩
        have er : rest = [] := by
          rw [List.drop_length] at hrest
          cases hrest; rfl
        subst er
        rw [List.append_nil] at hfull
        subst hfull
        exact po (.ref D) H2 G2 (D :: L) (st0.trans B.st) (List.nodup_cons.mpr ⟨B.dl, B.nd⟩) (fun a ha => by
          rcases List.mem_cons.mp ha with rfl | ha
          · exact ⟨none_back st0.h B.d0, B.dg⟩
          · exact ⟨none_back st0.h (B.fr a ha).1, (B.fr a ha).2⟩) ⟨D, vs, L, rfl, B.at_, rfl, B.ow⟩
theorem de_lc (hc : X.calm = true) (hN : X.N.Nodup) (hi : DI X cm E tg iter g slots mi) (ok : BlkOk X.N X.env.scope scope own) (hsl : own.map (·.2) = slots)
    (hg : ∀ (s : Shared) (H : Hp) (C : Addr) (cl : List (Str × Addr)) (fp : List Addr), PG (X.blk s H scope (compEnvC scope cl C X.env) fp) tg g)
    (ht : ∀ (s : Shared) (H : Hp) (C : Addr) (cl : List (Str × Addr)) (fp : List Addr), DTs (X.blk s H scope (compEnvC scope cl C X.env) fp) cm Ef ifs mt)
    (he : ∀ (s : Shared) (H : Hp) (C : Addr) (cl : List (Str × Addr)) (fp : List Addr), DE (X.blk s H scope (compEnvC scope cl C X.env) fp) cm Ef n elt me) (hs : ∀ x, foldedSetIterable iter X.env x = pure x := by intro _; rfl) :
    DE X cm E (n + 1) (.ListComp elt [⟨tg, iter, ifs, 0⟩] scope pos) (mLc mi slots mt me) :=
  PE.of (pe_lc (own := own) (tt := tDT X.K cm Ef mt) (te := tD X.K cm Ef n me) hc hN hi ok hg ht he hs) fun σ H Q ⟨G, Γ, s, ev, po⟩ => tlc_ok hsl s ev po
end
end DL

set_option Elab.async false
set_option linter.all false
set_option maxRecDepth 100000
set_option maxHeartbeats 1000000
namespace DL
open PySem PySem.Spec PyProof.Rows L2

/-! ### the state between statements -/
inductive Out where
  | nx (Γ : Ev)
  | ret (d : Dt)
  | exc (c : Nat)
  | bad
abbrev Ms := Ev → Out
def lv (O : List Nat) (i : Nat) : Nat := O.getD i 0
/-- the view that is left beside the owned objects S (and what stood at the entry outside its view) -/
def Vw (H0 G0 : Hp) (S : List Addr) (H : Hp) : Hp := fun a => if a ∈ S ∨ ((G0 a).isSome = false ∧ (H0 a).isSome = true) then none else H a
section
variable {H0 G0 H H' G : Hp} {S S' : List Addr} {a : Addr} {o : HO}
theorem Vw.of (h : a ∉ S) (n : (∃ u, G0 a = some u) ∨ H0 a = none) (e : H a = some o) : Vw H0 G0 S H a = some o := by
  unfold Vw
  rw [if_neg]
  · exact e
  · rintro (q | ⟨q1, q2⟩)
    · exact h q
    · rcases n with ⟨u, n⟩ | n
      · rw [n] at q1; cases q1
      · rw [n] at q2; cases q2
theorem Vw.inv (e : Vw H0 G0 S H a = some o) : a ∉ S ∧ ((∃ u, G0 a = some u) ∨ H0 a = none) ∧ H a = some o := by
  unfold Vw at e
  split at e
  · cases e
  · rename_i h
    refine ⟨fun q => h (.inl q), ?_, e⟩
    cases hg : G0 a with
    | some u => exact .inl ⟨u, rfl⟩
    | none =>
      right
      cases hh : H0 a with
      | none => rfl
      | some u => exact (h (.inr ⟨by rw [hg]; rfl, by rw [hh]; rfl⟩)).elim
theorem Vw.same : Same (Vw H0 G0 S H) H := fun a o e => (Vw.inv e).2.2
theorem Vw.mono (h : Same H H') (hs : ∀ a ∈ S', (∃ o, H a = some o) → a ∈ S) : Same (Vw H0 G0 S H) (Vw H0 G0 S' H') := fun a o e =>
  let ⟨h1, h2, h3⟩ := Vw.inv e
  Vw.of (fun q => h1 (hs a q ⟨o, h3⟩)) h2 (h _ _ h3)
end
structure SIw (K : PySem.W.Frag) (H0 G0 : Hp) (O : List Nat) (Ls : Nat → List Addr) (S : List Addr) (Γ : Ev) (σ : L2.St) (H : Hp) : Prop where
  h0 : Same H0 H
  g0 : Same G0 H
  own : ∀ a ∈ S, H0 a = none ∧ G0 a = none ∧ ∃ o, H a = some o
  sub : ∀ i, ∀ a ∈ Ls i, a ∈ S
  nd : ∀ i, (Ls i).Nodup
  dj : ∀ i j, i ≠ j → ∀ a ∈ Ls i, a ∉ Ls j
  rep : ∀ (i : Nat) (d : Dt), Γ[i]? = some (some d) → ∃ v, σ[i]? = some (some v) ∧ Ow K H (Vw H0 G0 S H) (lv O i) d v (Ls i)
  len : Γ.length = σ.length
def SI (K : PySem.W.Frag) (H0 G0 : Hp) (O : List Nat) (Γ : Ev) (σ : L2.St) (H : Hp) : Prop := ∃ Ls S, SIw K H0 G0 O Ls S Γ σ H
/-- the names that are not owned -/
def mask : List Nat → Ev → Ev
  | _, [] => []
  | [], Γ => Γ
  | 0 :: O, x :: Γ => x :: mask O Γ
  | (_ + 1) :: O, _ :: Γ => none :: mask O Γ
theorem mask_get : ∀ {O : List Nat} {Γ : Ev} {i : Nat} {d : Dt}, (mask O Γ)[i]? = some (some d) → lv O i = 0 ∧ Γ[i]? = some (some d)
  | O, [], i, d, h => by cases O <;> simp [mask] at h
  | [], x :: Γ, i, d, h => ⟨by simp [lv], h⟩
  | 0 :: O, x :: Γ, 0, d, h => ⟨rfl, h⟩
  | 0 :: O, x :: Γ, i + 1, d, h => mask_get (O := O) (Γ := Γ) (i := i) (by simpa [mask] using h)
  | (k + 1) :: O, x :: Γ, 0, d, h => by simp [mask] at h
  | (k + 1) :: O, x :: Γ, i + 1, d, h => mask_get (O := O) (Γ := Γ) (i := i) (by simpa [mask] using h)
theorem mask_length : ∀ (O : List Nat) (Γ : Ev), (mask O Γ).length = Γ.length
  | O, [] => by cases O <;> rfl
  | [], x :: Γ => rfl
  | 0 :: O, x :: Γ => by rw [mask, List.length_cons, List.length_cons, mask_length O Γ]
  | (k + 1) :: O, x :: Γ => by rw [mask, List.length_cons, List.length_cons, mask_length O Γ]

/-- an answer that leaves a def, as its caller wants it -/
def RetOk (K : PySem.W.Frag) (nr : Nat) (H0 G0 : Hp) (d : Dt) (v : V) (H' : Hp) : Prop :=
  ∃ G' L, Stp H0 G0 H' G' ∧ L.Nodup ∧ (∀ a ∈ L, H0 a = none ∧ G' a = none) ∧ Ow K H' G' nr d v L
def SPost (K : PySem.W.Frag) (cm : Nat → Value) (W : WX) (nr : Nat) (H0 G0 : Hp) (O : List Nat) (o : Out) (D : Ends) : Prop := match o with
  | .nx Γ => ∀ σ' H', SI K H0 G0 O Γ σ' H' → D.nx σ' H'
  | .ret d => ∀ v H', RetOk K nr H0 G0 d v H' → D.rt v H'
  | .exc c => ∀ σ' H', Same H0 H' → W (cm c) none σ' H'
  | .bad => False
def tS (K : PySem.W.Frag) (cm : Nat → Value) (W : WX) (nr : Nat) (O O' : List Nat) (m : Ms) : TS := fun D σ H => ∃ H0 G0 Γ, SI K H0 G0 O Γ σ H ∧ SPost K cm W nr H0 G0 O' (m Γ) D
def DS (X : Cx) (cm : Nat → Value) (W : WX) (nr : Nat) (O O' : List Nat) (st : Stmt) (m : Ms) : Prop := PS X st (tS X.K cm W nr O O' m)
def DSs (X : Cx) (cm : Nat → Value) (W : WX) (nr : Nat) (O O' : List Nat) (st : List Stmt) (m : Ms) : Prop := PSs X st (tS X.K cm W nr O O' m)
theorem PS.of {X : Cx} {st : Stmt} {t t' : TS} (h : PS X st t) (w : ∀ D σ H, t' D σ H → t D σ H) : PS X st t' := ⟨fun pins s σ H D I q => h.run pins s σ H D I (w D σ H q)⟩
theorem PSs.of {X : Cx} {st : List Stmt} {t t' : TS} (h : PSs X st t) (w : ∀ D σ H, t' D σ H → t D σ H) : PSs X st t' := ⟨fun pins s σ H D I q => h.run pins s σ H D I (w D σ H q)⟩

section
variable {K : PySem.W.Frag} {H0 G0 H H' G : Hp} {O O' : List Nat} {Ls : Nat → List Addr} {S : List Addr} {Γ : Ev} {σ : L2.St}
/-- the heap grows -/
theorem SIw.grow (I : SIw K H0 G0 O Ls S Γ σ H) (h : Same H H') : SIw K H0 G0 O Ls S Γ σ H' :=
  ⟨I.h0.trans h, I.g0.trans h, fun a ha => ⟨(I.own a ha).1, (I.own a ha).2.1, let ⟨o, e⟩ := (I.own a ha).2.2; ⟨o, h _ _ e⟩⟩, I.sub, I.nd, I.dj,
    fun i d e => let ⟨v, h1, h2⟩ := I.rep i d e; ⟨v, h1, h2.mono h (Vw.mono h fun a q _ => q)⟩, I.len⟩
theorem SIw.g0v (I : SIw K H0 G0 O Ls S Γ σ H) : Same G0 (Vw H0 G0 S H) := fun a o e =>
  Vw.of (fun q => by have := (I.own a q).2.1; rw [e] at this; cases this) (.inl ⟨o, e⟩) (I.g0 _ _ e)
/-- all names, in the view with the owned objects -/
theorem SIw.all (I : SIw K H0 G0 O Ls S Γ σ H) : EvR K (Vw H0 G0 [] H) Γ σ :=
  ⟨fun i d e => let ⟨v, h1, h2⟩ := I.rep i d e; ⟨v, h1, h2.rp (Vw.mono (Same.refl _) fun a q _ => by cases q) fun a ha o e => Vw.of (by simp) (.inr (I.own a (I.sub i a ha)).1) e⟩, I.len⟩
theorem SIw.some_ (I : SIw K H0 G0 O Ls S Γ σ H) : EvR K (Vw H0 G0 S H) (mask O Γ) σ :=
  ⟨fun i d e => by
    obtain ⟨h1, h2⟩ := mask_get e
    obtain ⟨v, h3, h4⟩ := I.rep i d h2
    rw [h1, Ow.zero] at h4
    exact ⟨v, h3, h4.2⟩, by rw [mask_length]; exact I.len⟩
/-- a slot is given a new value, owned at L -/
theorem SIw.put {i n : Nat} {d : Dt} {v : V} {L : List Addr} (I : SIw K H0 G0 O Ls S Γ σ H) (nd : L.Nodup) (fr : ∀ a ∈ L, H0 a = none ∧ G0 a = none ∧ a ∉ S ∧ ∃ o, H a = some o)
    (nv : ∀ j, j ≠ i → ∀ d, Γ[j]? = some (some d) → ∃ v, σ[j]? = some (some v) ∧ Ow K H (Vw H0 G0 (L ++ S) H) (lv O j) d v (Ls j)) (ow : Ow K H (Vw H0 G0 (L ++ S) H) n d v L) (hO : lv O' i = n) (hO2 : ∀ j, j ≠ i → lv O' j = lv O j) :
    SIw K H0 G0 O' (fun j => if j = i then L else Ls j) (L ++ S) (Γ.set i (some d)) (σ.set i (some v)) H := by
  refine ⟨I.h0, I.g0, fun a ha => ?_, fun j a ha => ?_, fun j => ?_, fun j k hjk a ha => ?_, fun j d' e => ?_, by rw [List.length_set, List.length_set]; exact I.len⟩
  · rcases List.mem_append.mp ha with ha | ha
    · exact ⟨(fr a ha).1, (fr a ha).2.1, (fr a ha).2.2.2⟩
    · exact I.own a ha
  · by_cases hj : j = i
    · rw [if_pos hj] at ha; exact List.mem_append_left _ ha
    · rw [if_neg hj] at ha; exact List.mem_append_right _ (I.sub j a ha)
  · skip
    split
    · exact nd
    · exact I.nd j
  · skip
    by_cases hj : j = i
    · rw [if_pos hj] at ha
      have hk : k ≠ i := fun z => hjk (hj.trans z.symm)
      rw [if_neg hk]
      exact fun q => (fr a ha).2.2.1 (I.sub k a q)
    · rw [if_neg hj] at ha
      by_cases hk : k = i
      · rw [if_pos hk]
        exact fun q => (fr a q).2.2.1 (I.sub j a ha)
      · rw [if_neg hk]
        exact I.dj j k hjk a ha
  · by_cases hj : j = i
    · subst hj
      by_cases hlt : j < Γ.length
      · rw [List.getElem?_set_self hlt] at e
        cases e
        refine ⟨v, List.getElem?_set_self (by have := I.len; omega), ?_⟩
        rw [if_pos rfl, hO]
        exact ow
      · rw [List.getElem?_eq_none (by rw [List.length_set]; omega)] at e; cases e
    · rw [List.getElem?_set_ne (fun z => hj z.symm)] at e ⊢
      obtain ⟨u, h1, h2⟩ := nv j hj d' e
      refine ⟨u, h1, ?_⟩
      rw [if_neg hj, hO2 j hj]
      exact h2
/-- .. where the new owned objects came behind the state: no other slot speaks of them -/
theorem SIw.store {i n : Nat} {d : Dt} {v : V} {L : List Addr} (I : SIw K H0 G0 O Ls S Γ σ H) (hh : Same H H') (nd : L.Nodup) (fr : ∀ a ∈ L, H a = none ∧ ∃ o, H' a = some o) (ow : Ow K H' (Vw H0 G0 (L ++ S) H') n d v L) (hO : lv O' i = n) (hO2 : ∀ j, j ≠ i → lv O' j = lv O j) :
    SI K H0 G0 O' (Γ.set i (some d)) (σ.set i (some v)) H' := by
  refine ⟨_, _, (I.grow hh).put nd (fun a ha => ?_) (fun j hj d e => ?_) ow hO hO2⟩
  · have n := (fr a ha).1
    refine ⟨none_back I.h0 n, none_back I.g0 n, fun q => ?_, (fr a ha).2⟩
    obtain ⟨o, e⟩ := (I.own a q).2.2
    rw [n] at e; cases e
  · obtain ⟨u, h1, h2⟩ := I.rep j d e
    refine ⟨u, h1, h2.mono hh (Vw.mono hh fun a q ⟨o, e⟩ => ?_)⟩
    rcases List.mem_append.mp q with q | q
    · rw [(fr a q).1] at e; cases e
    · exact q
/-- fewer slots are owned -/
def lower (O O' : List Nat) (i : Nat) : Bool := lv O' i == 0 && lv O i != 0
theorem SI.low (hO : ∀ i, lv O' i = lv O i ∨ lv O' i = 0) (I : SI K H0 G0 O Γ σ H) : SI K H0 G0 O' Γ σ H := by
  obtain ⟨Ls, S, I⟩ := I
  let bad : Addr → Bool := fun a => (List.range Γ.length).any fun i => lower O O' i && decide (a ∈ Ls i)
  have hbad : ∀ {a}, bad a = true ↔ ∃ i, i < Γ.length ∧ lower O O' i = true ∧ a ∈ Ls i := fun {a} => by
    show (List.range Γ.length).any _ = true ↔ _
    rw [List.any_eq_true]
    constructor
    · rintro ⟨i, hi, h⟩
      rw [Bool.and_eq_true] at h
      exact ⟨i, List.mem_range.mp hi, h.1, of_decide_eq_true h.2⟩
    · rintro ⟨i, hi, h1, h2⟩
      exact ⟨i, List.mem_range.mpr hi, by rw [h1, decide_eq_true h2]; rfl⟩
  have sv : Same (Vw H0 G0 S H) (Vw H0 G0 (S.filter fun a => !bad a) H) := Vw.mono (Same.refl _) fun a q _ => (List.mem_filter.mp q).1
  refine ⟨fun i => if lower O O' i = true ∨ Γ.length ≤ i then [] else Ls i, S.filter fun a => !bad a, I.h0, I.g0, fun a ha => I.own a (List.mem_filter.mp ha).1, fun i a ha => ?_, fun i => ?_, fun i j hij a ha => ?_, fun i d e => ?_, I.len⟩
  · skip
    split at ha
    · cases ha
    · rename_i h
      have h1 : ¬ lower O O' i = true := fun q => h (.inl q)
      have h2 : i < Γ.length := by
        rcases Nat.lt_or_ge i Γ.length with q | q
        · exact q
        · exact (h (.inr q)).elim
      refine List.mem_filter.mpr ⟨I.sub i a ha, ?_⟩
      cases hb : bad a with
      | false => rfl
      | true =>
        obtain ⟨j, _, hj, hja⟩ := hbad.mp hb
        have hji : j ≠ i := fun z => h1 (z ▸ hj)
        exact (I.dj j i hji a hja ha).elim
  · skip
    split
    · exact List.nodup_nil
    · exact I.nd i
  · skip
    split at ha
    · cases ha
    · split
      · exact fun q => nomatch q
      · exact I.dj i j hij a ha
  · obtain ⟨v, h1, h2⟩ := I.rep i d e
    have hi : i < Γ.length := (List.getElem?_eq_some_iff.mp e).1
    refine ⟨v, h1, ?_⟩
    by_cases hl : lower O O' i = true
    · have hl' := hl
      unfold lower at hl'
      rw [Bool.and_eq_true] at hl'
      have h0 : lv O' i = 0 := by simpa using hl'.1
      rw [h0, if_pos (.inl hl), Ow.zero]
      refine ⟨rfl, h2.rp sv fun a ha o q => Vw.of (fun z => ?_) (.inr (I.own a (I.sub i a ha)).1) q⟩
      have hb := (List.mem_filter.mp z).2
      have : bad a = true := hbad.mpr ⟨i, hi, hl, ha⟩
      rw [this] at hb; cases hb
    · rw [if_neg (fun q => q.elim hl fun z => absurd hi (by omega))]
      have he : lv O' i = lv O i := by
        rcases hO i with q | q
        · exact q
        · rw [q]
          unfold lower at hl
          rw [q] at hl
          simp at hl
          exact hl.symm
      rw [he]
      exact h2.mono (Same.refl _) sv
end

/-! ### expressions where a statement stands -/
section
variable {K : PySem.W.Frag} {cm : Nat → Value} {W : WX} {H0 G0 H : Hp} {O : List Nat} {Ls : Nat → List Addr} {S : List Addr} {Γ : Ev} {σ : L2.St} {k n : Nat} {m : Mr} {Q : VK}
/-- the whole is read; what is given is the call's own, or a scalar -/
theorem tD_T (I : SIw K H0 G0 O Ls S Γ σ H) (hx : ∀ c, m Γ = .exc c → ∀ H', Same H0 H' → W (cm c) none σ H') (hb : m Γ ≠ .bad)
    (q : ∀ d v H' G' L, m Γ = .ok d → Same H H' → Stp H (Vw H0 G0 [] H) H' G' → L.Nodup → (∀ a ∈ L, H a = none ∧ G' a = none) → Ow K H' G' k d v L → Q v H') : tD K cm (WE W) k m σ H Q := by
  refine ⟨Vw H0 G0 [] H, Γ, Vw.same, I.all, ?_⟩
  cases e : m Γ with
  | bad => exact (hb e).elim
  | exc c => exact fun H' s => hx c e H' (I.h0.trans s)
  | ok d => exact fun v H' G' L st nd fr ow => q d v H' G' L e st.h st nd fr ow
/-- what is not owned is read -/
theorem tD_P (I : SIw K H0 G0 O Ls S Γ σ H) (hx : ∀ c, m (mask O Γ) = .exc c → ∀ H', Same H0 H' → W (cm c) none σ H') (hb : m (mask O Γ) ≠ .bad)
    (q : ∀ d v H' G' L, m (mask O Γ) = .ok d → Same H H' → Stp H (Vw H0 G0 S H) H' G' → L.Nodup → (∀ a ∈ L, H a = none ∧ G' a = none) → Ow K H' G' k d v L → Q v H') : tD K cm (WE W) k m σ H Q := by
  refine ⟨Vw H0 G0 S H, mask O Γ, Vw.same, I.some_, ?_⟩
  cases e : m (mask O Γ) with
  | bad => exact (hb e).elim
  | exc c => exact fun H' s => hx c e H' (I.h0.trans s)
  | ok d => exact fun v H' G' L st nd fr ow => q d v H' G' L e st.h st nd fr ow
theorem tDT_T {m : Ev → Res Bool} {Q : Bool → Hp → Prop} (I : SIw K H0 G0 O Ls S Γ σ H) (hx : ∀ c, m Γ = .exc c → ∀ H', Same H0 H' → W (cm c) none σ H') (hb : m Γ ≠ .bad)
    (q : ∀ b H', m Γ = .ok b → Same H H' → Q b H') : tDT K cm (WE W) m σ H Q := by
  refine ⟨Vw H0 G0 [] H, Γ, Vw.same, I.all, ?_⟩
  cases e : m Γ with
  | bad => exact (hb e).elim
  | exc c => exact fun H' s => hx c e H' (I.h0.trans s)
  | ok d => exact fun H' G' st => q d H' e st.h
/-- a view behind a step from what is not owned -/
theorem view_P {H' G' : Hp} {L : List Addr} (I : SIw K H0 G0 O Ls S Γ σ H) (st : Stp H (Vw H0 G0 S H) H' G') (fr : ∀ a ∈ L, H a = none ∧ G' a = none) : Same G' (Vw H0 G0 (L ++ S) H') := fun a o e => by
  have key : a ∉ S ∧ ((∃ u, G0 a = some u) ∨ H0 a = none) := by
    rcases st.new a o e with ⟨u, q⟩ | q
    · exact ⟨(Vw.inv q).1, (Vw.inv q).2.1⟩
    · refine ⟨fun z => ?_, .inr (none_back I.h0 q)⟩
      obtain ⟨u, w⟩ := (I.own a z).2.2
      rw [q] at w; cases w
  refine Vw.of (fun z => ?_) key.2 (st.s _ _ e)
  rcases List.mem_append.mp z with z | z
  · rw [(fr a z).2] at e; cases e
  · exact key.1 z
end
end DL

set_option Elab.async false
set_option linter.all false
set_option maxRecDepth 100000
set_option maxHeartbeats 1000000
namespace DL
open PySem PySem.Spec PyProof.Rows L2

def toOut (r : Res Dt) (f : Dt → Out) : Out := match r with
  | .ok d => f d
  | .exc c => .exc c
  | .bad => .bad
@[simp] theorem toOut_ok (d : Dt) (f : Dt → Out) : toOut (.ok d) f = f d := rfl
@[simp] theorem toOut_exc (c : Nat) (f : Dt → Out) : toOut (.exc c) f = .exc c := rfl
@[simp] theorem toOut_bad (f : Dt → Out) : toOut .bad f = .bad := rfl
def mNext : Ms := fun Γ => .nx Γ
def thenO (o : Out) (f : Ev → Out) : Out := match o with
  | .nx Γ => f Γ
  | .ret d => .ret d
  | .exc c => .exc c
  | .bad => .bad
@[simp] theorem thenO_nx (Γ : Ev) (f : Ev → Out) : thenO (.nx Γ) f = f Γ := rfl
@[simp] theorem thenO_ret (d : Dt) (f : Ev → Out) : thenO (.ret d) f = .ret d := rfl
@[simp] theorem thenO_exc (c : Nat) (f : Ev → Out) : thenO (.exc c) f = .exc c := rfl
@[simp] theorem thenO_bad (f : Ev → Out) : thenO .bad f = .bad := rfl
def mSeq (a b : Ms) : Ms := fun Γ => thenO (a Γ) b
def mIf (c : Ev → Res Bool) (a b : Ms) : Ms := fun Γ => match c Γ with
  | .ok true => a Γ
  | .ok false => b Γ
  | .exc e => .exc e
  | .bad => .bad
def lwB (O O' : List Nat) : Bool := (List.range (max O.length O'.length)).all fun i => lv O' i == lv O i || lv O' i == 0
theorem lwB_ok {O O' : List Nat} (h : lwB O O' = true) (i : Nat) : lv O' i = lv O i ∨ lv O' i = 0 := by
  unfold lwB at h
  rw [List.all_eq_true] at h
  rcases Nat.lt_or_ge i (max O.length O'.length) with q | q
  · have := h i (List.mem_range.mpr q)
    simpa using this
  · right
    unfold lv
    rw [List.getD_eq_getElem?_getD, List.getElem?_eq_none (by omega)]
    rfl
theorem lv_set {O : List Nat} {i n : Nat} (h : i < O.length) : lv (O.set i n) i = n := by
  unfold lv
  rw [List.getD_eq_getElem?_getD, List.getElem?_set_self h]
  rfl
theorem lv_set_ne {O : List Nat} {i j n : Nat} (h : j ≠ i) : lv (O.set i n) j = lv O j := by
  unfold lv
  rw [List.getD_eq_getElem?_getD, List.getD_eq_getElem?_getD, List.getElem?_set_ne (fun z => h z.symm)]

section
variable {X : Cx} {cm : Nat → Value} {W : WX} {nr : Nat} {O O1 O2 O' : List Nat} {st : Stmt} {rest body a b : List Stmt} {m m1 m2 ma mb : Ms} {e : Expr} {me : Mr} {i k n : Nat} {pos : Pos}
/-! ### blocks, tests -/
theorem SPost.low {K : PySem.W.Frag} {H0 G0 : Hp} {o : Out} {D : Ends} (h : ∀ i, lv O' i = lv O i ∨ lv O' i = 0) (po : SPost K cm W nr H0 G0 O' o D) : SPost K cm W nr H0 G0 O o D := by
  cases o with
  | nx Γ => exact fun σ' H' I => po σ' H' (I.low h)
  | ret d => exact po
  | exc c => exact po
  | bad => exact po
theorem dss_nil : DSs X cm W nr O O [] mNext := PSs.of pss_nil fun D σ H ⟨H0, G0, Γ, I, po⟩ => po σ H I
theorem dss_cons (h1 : DS X cm W nr O O1 st m1) (h2 : DSs X cm W nr O1 O' rest m2) : DSs X cm W nr O O' (st :: rest) (mSeq m1 m2) := by
  refine PSs.of (pss_cons h1 h2) fun D σ H ⟨H0, G0, Γ, I, po⟩ => ⟨H0, G0, Γ, I, ?_⟩
  unfold mSeq at po
  cases hx : m1 Γ with
  | nx Γ' => rw [hx] at po; exact fun σ' H' I' => ⟨H0, G0, Γ', I', po⟩
  | ret d => rw [hx] at po; exact po
  | exc c => rw [hx] at po; exact po
  | bad => rw [hx] at po; exact po
theorem dss_one (h1 : DS X cm W nr O O' st m1) : DSs X cm W nr O O' [st] m1 := pss_one h1
/-- names owned up to here are shared from here on -/
theorem dss_low (O1 : List Nat) (h : DSs X cm W nr O1 O' rest m) (hw : lwB O O1 = true := by rfl) : DSs X cm W nr O O' rest m :=
  PSs.of h fun D σ H ⟨H0, G0, Γ, I, po⟩ => ⟨H0, G0, Γ, I.low (lwB_ok hw), po⟩
theorem dss_post (O1 : List Nat) (h : DSs X cm W nr O O1 rest m) (hw : lwB O1 O' = true := by rfl) : DSs X cm W nr O O' rest m :=
  PSs.of h fun D σ H ⟨H0, G0, Γ, I, po⟩ => ⟨H0, G0, Γ, I, po.low (lwB_ok hw)⟩
theorem ds_low (O1 : List Nat) (h : DS X cm W nr O1 O' st m) (hw : lwB O O1 = true := by rfl) : DS X cm W nr O O' st m :=
  PS.of h fun D σ H ⟨H0, G0, Γ, I, po⟩ => ⟨H0, G0, Γ, I.low (lwB_ok hw), po⟩
theorem ds_if {c : Expr} {mc : Ev → Res Bool} (hc : DT X cm (WE W) c mc) (ha : DSs X cm W nr O O' a ma) (hb : DSs X cm W nr O O' b mb) : DS X cm W nr O O' (.If c a b pos) (mIf mc ma mb) := by
  refine PS.of (ps_if hc ha hb) fun D σ H ⟨H0, G0, Γ, ⟨Ls, S, I⟩, po⟩ => ?_
  unfold mIf at po
  refine tDT_T I (fun c e H' s => ?_) (fun e => ?_) fun b H' e s => ?_
  · rw [e] at po; exact po σ H' s
  · rw [e] at po; exact po
  · rw [e] at po
    cases b with
    | true => exact ⟨H0, G0, Γ, ⟨Ls, S, I.grow s⟩, po⟩
    | false => exact ⟨H0, G0, Γ, ⟨Ls, S, I.grow s⟩, po⟩

/-! ### stores -/
def sT (i k : Nat) (m : Mr) : Ms := fun Γ => toOut (m Γ) fun d => if deep k d = true then .nx (Γ.set i (some d)) else .bad
def sP (O : List Nat) (i : Nat) (m : Mr) : Ms := fun Γ => toOut (m (mask O Γ)) fun d => .nx (Γ.set i (some d))
/-- owned at the depth k and nothing deeper: in any view, and at L alone -/
theorem own_share {K : PySem.W.Frag} {H0 G0 H H' G' : Hp} {Ls : Nat → List Addr} {S L : List Addr} {Γ : Ev} {σ : L2.St} {d : Dt} {v : V} (I : SIw K H0 G0 O Ls S Γ σ H) (hh : Same H H') (hd : deep k d = true) (fr : ∀ a ∈ L, H a = none) (ow : Ow K H' G' k d v L) :
    Ow K H' (Vw H0 G0 ([] ++ S) H') 0 d v [] := by
  rw [Ow.zero]
  refine ⟨rfl, (ow.deep (G' := Vw H0 G0 ([] ++ S) H') hd (Nat.le_refl _)).rp (Same.refl _) fun a ha o e => Vw.of (fun z => ?_) (.inr (none_back I.h0 (fr a ha))) e⟩
  obtain ⟨u, w⟩ := (I.own a z).2.2
  rw [fr a ha] at w; cases w
theorem ds_setT (h : PS X st (tAsg (tD X.K cm (WE W) k me) (gName i))) (hi : i < O.length) (hn : n = 0 ∨ k ≤ n) (hO : O' = O.set i n := by rfl) : DS X cm W nr O O' st (sT i k me) := by
  subst hO
  refine PS.of h fun D σ H ⟨H0, G0, Γ, ⟨Ls, S, I⟩, po⟩ => ?_
  unfold sT at po
  refine tD_T I (fun c e H' s => ?_) (fun e => ?_) fun d v H' G' L e hh st nd fr ow => ?_
  · rw [e] at po; exact po σ H' s
  · rw [e] at po; exact po
  · rw [e, toOut_ok] at po
    cases hd : deep k d with
    | false => rw [hd] at po; exact (show False from po).elim
    | true =>
      rw [hd, if_pos rfl] at po
      refine po _ _ ?_
      rcases hn with rfl | hn
      · exact I.store hh List.nodup_nil (fun a ha => by cases ha) (own_share I hh hd (fun a ha => (fr a ha).1) ow) (lv_set hi) fun j hj => lv_set_ne hj
      · exact I.store hh nd (fun a ha => ⟨(fr a ha).1, ow.there a ha⟩) (ow.deep hd hn) (lv_set hi) fun j hj => lv_set_ne hj
theorem ds_setP (h : PS X st (tAsg (tD X.K cm (WE W) n me) (gName i))) (hi : i < O.length) (hO : O' = O.set i n := by rfl) : DS X cm W nr O O' st (sP O i me) := by
  subst hO
  refine PS.of h fun D σ H ⟨H0, G0, Γ, ⟨Ls, S, I⟩, po⟩ => ?_
  unfold sP at po
  refine tD_P I (fun c e H' s => ?_) (fun e => ?_) fun d v H' G' L e hh st nd fr ow => ?_
  · rw [e] at po; exact po σ H' s
  · rw [e] at po; exact po
  · rw [e, toOut_ok] at po
    exact po _ _ (I.store hh nd (fun a ha => ⟨(fr a ha).1, ow.there a ha⟩) (ow.mono (Same.refl _) (view_P I st fr)) (lv_set hi) fun j hj => lv_set_ne hj)
/-- the stores' readings: a name, a name given a comprehension -/
theorem asg_name {x : Str} {pos' : Pos} (he : DE X cm (WE W) k e me) (hN : X.N.Nodup) (hi : X.N[i]? = some x) (hx : Loc X.env.scope x) (hs : swapsWith e (some (.Name x pos')) pos.line X.env = pure false := by rfl) (hf : X.fn x = true ∨ X.env.scope.names.lookup x = some .local := by first | exact .inl rfl | exact .inr rfl) :
    PS X (.Assign [.Name x pos'] e pos) (tAsg (tD X.K cm (WE W) k me) (gName i)) := ps_set hN hi hx he hs hf
theorem asg_lc {y : Str} {py spos : Pos} {elt tg iter : Expr} {ifs : List Expr} {scope : Scope} {own : List (Str × Nat)} {g : TG} {slots : List Nat} {mi : Mi} {mt : Ev → Res Bool} {me : Mr} (hc : X.calm = true) (hN : X.N.Nodup) (hy : X.N[i]? = some y) (hyl : X.env.scope.names.lookup y = some .local)
    (hsw : swapsWith (.ListComp elt [⟨tg, iter, ifs, 0⟩] scope pos) (some (.Name y py)) spos.line X.env = pure true) (hi : DI X cm (WE W) tg iter g slots mi) (ok : BlkOk X.N X.env.scope scope own) (hsl : own.map (·.2) = slots)
    (hg : ∀ (s : Shared) (H : Hp) (C : Addr) (cl : List (Str × Addr)) (fp : List Addr), PG (X.blk s H scope (compEnvC scope cl C X.env) fp) tg g)
    (ht : ∀ (s : Shared) (H : Hp) (C : Addr) (cl : List (Str × Addr)) (fp : List Addr), DTs (X.blk s H scope (compEnvC scope cl C X.env) fp) cm Ef ifs mt)
    (he : ∀ (s : Shared) (H : Hp) (C : Addr) (cl : List (Str × Addr)) (fp : List Addr), DE (X.blk s H scope (compEnvC scope cl C X.env) fp) cm Ef n elt me) (hs : ∀ x, foldedSetIterable iter X.env x = pure x := by intro _; rfl) :
    PS X (.Assign [.Name y py] (.ListComp elt [⟨tg, iter, ifs, 0⟩] scope pos) spos) (tAsg (tD X.K cm (WE W) (n + 1) (mLc mi slots mt me)) (gName i)) :=
  PS.of (ps_setLc (own := own) (tt := tDT X.K cm Ef mt) (te := tD X.K cm Ef n me) hc hN hy hyl hsw hi ok hg ht he hs) fun D σ H ⟨G, Γ, s, ev, po⟩ => tlc_ok hsl s ev po

/-! ### return, calls for their effect, raise -/
def sRet (m : Mr) : Ms := fun Γ => toOut (m Γ) fun d => .ret d
theorem ds_ret (he : DE X cm (WE W) nr e me) : DS X cm W nr O O' (.Return (some e) pos) (sRet me) := by
  refine PS.of (ps_ret he) fun D σ H ⟨H0, G0, Γ, ⟨Ls, S, I⟩, po⟩ => ?_
  unfold sRet at po
  refine tD_T I (fun c e H' s => ?_) (fun e => ?_) fun d v H' G' L e hh st nd fr ow => ?_
  · rw [e] at po; exact po σ H' s
  · rw [e] at po; exact po
  · rw [e, toOut_ok] at po
    refine po v H' ⟨G', L, ⟨I.h0.trans hh, fun a o q => st.g _ _ (Vw.of (by simp) (.inl ⟨o, q⟩) (I.g0 _ _ q)), st.s, fun a o q => ?_⟩, nd, fun a ha => ⟨none_back I.h0 (fr a ha).1, (fr a ha).2⟩, ow⟩
    rcases st.new a o q with ⟨u, w⟩ | w
    · exact (Vw.inv w).2.1
    · exact .inr (none_back I.h0 w)
/-- return x, x owned -/
def sMove (i : Nat) : Ms := fun Γ => match Γ[i]? with
  | some (some d) => .ret d
  | _ => .bad
theorem ds_move (he : PE X e (tVar i)) (hO : lv O i = nr := by rfl) : DS X cm W nr O O' (.Return (some e) pos) (sMove i) := by
  refine PS.of (ps_ret he) fun D σ H ⟨H0, G0, Γ, ⟨Ls, S, I⟩, po⟩ => ?_
  unfold sMove at po
  cases hx : Γ[i]? with
  | none => rw [hx] at po; exact (show False from po).elim
  | some od =>
    cases od with
    | none => rw [hx] at po; exact (show False from po).elim
    | some d =>
      rw [hx] at po
      obtain ⟨v, h1, h2⟩ := I.rep i d hx
      refine ⟨v, h1, po v H ⟨Vw H0 G0 S H, Ls i, ⟨I.h0, I.g0v, Vw.same, fun a o q => (Vw.inv q).2.1⟩, I.nd i, fun a ha => ⟨(I.own a (I.sub i a ha)).1, ?_⟩, by rw [← hO]; exact h2⟩⟩
      cases q : Vw H0 G0 S H a with
      | none => rfl
      | some o => exact absurd (I.sub i a ha) (Vw.inv q).1
def sExpr (m : Mr) : Ms := fun Γ => toOut (m Γ) fun _ => .nx Γ
theorem ds_expr (he : DE X cm (WE W) k e me) (hs : swapsWith e none pos.line X.env = pure false := by rfl) : DS X cm W nr O O (.Expr e pos) (sExpr me) := by
  refine PS.of (ps_expr he hs) fun D σ H ⟨H0, G0, Γ, ⟨Ls, S, I⟩, po⟩ => ?_
  unfold sExpr at po
  refine tD_T I (fun c e H' s => ?_) (fun e => ?_) fun d v H' G' L e hh st nd fr ow => ?_
  · rw [e] at po; exact po σ H' s
  · rw [e] at po; exact po
  · rw [e, toOut_ok] at po
    exact po _ _ ⟨Ls, S, I.grow hh⟩
def sRaise (c : Nat) : Ms := fun _ => .exc c
theorem ds_raise {C : Addr} {c : Nat} (hc : X.calm = true) (tk : Takes X W) (he : PMk X e fun _ H Q => Q (.ref C) none H) (hC : cm c = .ref C) : DS X cm W nr O O' (.Raise (some e) none pos) (sRaise c) := by
  refine PS.of (ps_raise hc tk he) fun D σ H ⟨H0, G0, Γ, ⟨Ls, S, I⟩, po⟩ => ?_
  have po' : ∀ σ' H', Same H0 H' → W (cm c) none σ' H' := po
  rw [hC] at po'
  exact po' σ H I.h0

/-! ### for -/
def loopL (slots : List Nat) (mb : Ms) : Ev → List (List Dt) → Out
  | Γ, [] => .nx Γ
  | Γ, r :: rs => thenO (mb (bindAll Γ slots r)) fun Γ' => loopL slots mb Γ' rs
def sFor (O : List Nat) (mi : Mi) (slots : List Nat) (mb : Ms) : Ms := fun Γ => match mi (mask O Γ) with
  | .ok rows => loopL slots mb Γ rows
  | .exc c => .exc c
  | .bad => .bad
/-- the entry's view is widened by what a loop walks -/
theorem SIw.wider {K : PySem.W.Frag} {H0 G0 G1 H H1 : Hp} {Ls : Nat → List Addr} {S : List Addr} {Γ : Ev} {σ : L2.St} (I : SIw K H0 G0 O Ls S Γ σ H) (st : Stp H (Vw H0 G0 S H) H1 G1) : SIw K H0 G1 O Ls S Γ σ H1 := by
  refine ⟨I.h0.trans st.h, st.s, fun a ha => ⟨(I.own a ha).1, ?_, ?_⟩, I.sub, I.nd, I.dj, fun i d e => ?_, I.len⟩
  · obtain ⟨o, e⟩ := (I.own a ha).2.2
    refine apart1 st e ?_
    cases q : Vw H0 G0 S H a with
    | none => rfl
    | some u => exact absurd ha (Vw.inv q).1
  · obtain ⟨o, e⟩ := (I.own a ha).2.2
    exact ⟨o, st.h _ _ e⟩
  · obtain ⟨v, h1, h2⟩ := I.rep i d e
    refine ⟨v, h1, h2.mono st.h fun a o q => ?_⟩
    obtain ⟨q1, q2, q3⟩ := Vw.inv q
    exact Vw.of q1 (.inl ⟨o, st.g _ _ q⟩) (st.h _ _ q3)
theorem SI.narrow {K : PySem.W.Frag} {H0 G0 G1 H : Hp} {Γ : Ev} {σ : L2.St} (I : SI K H0 G1 O Γ σ H) (g : Same G0 G1) (new : ∀ a o, G1 a = some o → (∃ u, G0 a = some u) ∨ H0 a = none) : SI K H0 G0 O Γ σ H := by
  obtain ⟨Ls, S, I⟩ := I
  refine ⟨Ls, S, I.h0, g.trans I.g0, fun a ha => ⟨(I.own a ha).1, none_back g (I.own a ha).2.1, (I.own a ha).2.2⟩, I.sub, I.nd, I.dj, fun i d e => ?_, I.len⟩
  obtain ⟨v, h1, h2⟩ := I.rep i d e
  refine ⟨v, h1, h2.mono (Same.refl _) fun a o q => ?_⟩
  obtain ⟨q1, q2, q3⟩ := Vw.inv q
  refine Vw.of q1 ?_ q3
  rcases q2 with ⟨u, w⟩ | w
  · exact new a u w
  · exact .inr w
theorem RetOk.narrow {K : PySem.W.Frag} {H0 G0 G1 H : Hp} {d : Dt} {v : V} (r : RetOk K nr H0 G1 d v H) (g : Same G0 G1) (new : ∀ a o, G1 a = some o → (∃ u, G0 a = some u) ∨ H0 a = none) : RetOk K nr H0 G0 d v H := by
  obtain ⟨G', L, st, nd, fr, ow⟩ := r
  refine ⟨G', L, ⟨st.h, g.trans st.g, st.s, fun a o q => ?_⟩, nd, fr, ow⟩
  rcases st.new a o q with ⟨u, w⟩ | w
  · exact new a u w
  · exact .inr w
/-- slots that are not owned are bound -/
theorem SI.bind {K : PySem.W.Frag} {H0 G0 H H' : Hp} {is : List Nat} {ds : List Dt} {vs : List V} {Γ : Ev} {σ : L2.St} (hO : ∀ j ∈ is, lv O j = 0) (r : Rps K G0 ds vs) (h : Same H H') (I : SI K H0 G0 O Γ σ H) : SI K H0 G0 O (bindAll Γ is ds) (setAll σ is vs) H' := by
  have I' : SI K H0 G0 O Γ σ H' := let ⟨Ls, S, I⟩ := I; ⟨Ls, S, I.grow h⟩
  clear I h
  induction is generalizing ds vs Γ σ with
  | nil => exact I'
  | cons i is ih =>
    cases ds with
    | nil =>
      obtain rfl : vs = [] := r
      exact I'
    | cons d ds =>
      obtain ⟨v, t, rfl, g, q⟩ := r
      show SI K H0 G0 O (bindAll (Γ.set i (some d)) is ds) (setAll (σ.set i (some v)) is t) H'
      refine ih (fun j hj => hO j (List.mem_cons_of_mem _ hj)) q ?_
      obtain ⟨Ls, S, I⟩ := I'
      exact I.store (n := 0) (L := []) (Same.refl _) List.nodup_nil (fun a ha => by cases ha) (by rw [Ow.zero]; exact ⟨rfl, g.mono ((I.g0v).trans (Vw.mono (Same.refl _) fun a q _ => q))⟩) (hO i List.mem_cons_self) fun j _ => rfl
theorem ds_for {tg iter : Expr} {g : TG} {slots : List Nat} {mi : Mi} (hp : PassesOwn (model X.prog X.w) X.A X.env X.xe) (hc : X.calm = true) (hi : DI X cm (WE W) tg iter g slots mi) (hg : PG X tg g) (hb : DSs X cm W nr O O body mb) (hsl : slots.all (fun i => lv O i == 0) = true := by rfl)
    (hs : ∀ x, foldedSetIterable iter X.env x = pure x := by intro _; rfl) : DS X cm W nr O O (.For tg iter body [] pos) (sFor O mi slots mb) := by
  have hsl' : ∀ j ∈ slots, lv O j = 0 := fun j hj => by simpa using List.all_eq_true.mp hsl j hj
  refine PS.of (ps_for hp hc hi hg hb hs) fun D σ H ⟨H0, G0, Γ, ⟨Ls, S, I⟩, po⟩ => ?_
  unfold sFor at po
  refine ⟨Vw H0 G0 S H, mask O Γ, Vw.same, I.some_, ?_⟩
  cases hx : mi (mask O Γ) with
  | bad => rw [hx] at po; exact (show False from po).elim
  | exc c => rw [hx] at po; exact fun H' s => po σ H' (I.h0.trans s)
  | ok rows =>
    rw [hx] at po
    intro J H1 G1 st1 Sr
    have g01 : Same G0 G1 := I.g0v.trans st1.g
    have new1 : ∀ a o, G1 a = some o → (∃ u, G0 a = some u) ∨ H0 a = none := fun a o q => by
      rcases st1.new a o q with ⟨u, w⟩ | w
      · exact (Vw.inv w).2.1
      · exact .inr (none_back I.h0 w)
    have I1 : SI X.K H0 G1 O Γ σ H1 := ⟨Ls, S, I.wider st1⟩
    refine ⟨fun i m σ' H' => i + m = rows.length ∧ ∃ Γ', SI X.K H0 G1 O Γ' σ' H' ∧ SPost X.K cm W nr H0 G0 O (loopL slots mb Γ' (rows.drop i)) D, ⟨rows.length, by omega, Γ, I1, po⟩, ?_⟩
    rintro i m σ2 H2 ⟨him, Γ2, I2, po2⟩
    have sg : Same G1 H2 := let ⟨_, _, I⟩ := I2; I.g0
    by_cases hlt : i < rows.length
    · right
      refine ⟨Sr.go i H2 sg hlt, fun σ' H' => ∃ Γ', SI X.K H0 G1 O Γ' σ' H' ∧ SPost X.K cm W nr H0 G0 O (loopL slots mb Γ' (rows.drop (i + 1))) D, fun σ' H' h' => ⟨m - 1, by omega, by omega, h'⟩, fun x H3 y => ?_⟩
      refine Sr.bind i H2 x H3 σ2 _ rows[i] sg (List.getElem?_eq_getElem hlt) y fun vs H4 s4 r4 => ?_
      have I4 := SI.bind hsl' r4 s4 I2
      rw [List.drop_eq_getElem_cons hlt] at po2
      unfold loopL at po2
      refine ⟨H0, G1, _, I4, ?_⟩
      cases hb2 : mb (bindAll Γ2 slots rows[i]) with
      | nx Γ5 => rw [hb2] at po2; exact fun σ5 H5 I5 => ⟨Γ5, I5, po2⟩
      | ret d => rw [hb2] at po2; exact fun v H' r => po2 v H' (r.narrow g01 new1)
      | exc c => rw [hb2] at po2; exact po2
      | bad => rw [hb2] at po2; exact po2
    · left
      have e : i = rows.length := by omega
      subst e
      rw [List.drop_length] at po2
      exact ⟨Sr.stop H2 sg, po2 σ2 H2 (I2.narrow g01 new1)⟩

/-! ### a def by its body -/
/-- the names' data at the entry -/
def startE (n : Nat) (ds : List Dt) : Ev := ds.map some ++ List.replicate (n - ds.length) none
def runF (n : Nat) (mb : Ms) : List Dt → Res Dt := fun ds => match mb (startE n ds) with
  | .nx _ => .ok .non
  | .ret d => .ok d
  | .exc c => .exc c
  | .bad => .bad
theorem rps_start {K : PySem.W.Frag} {G : Hp} {ds : List Dt} {vs : List V} (r : Rps K G ds vs) {N : List Str} {i : Nat} {d : Dt} (h : (startE N.length ds)[i]? = some (some d)) : ∃ v, (start N vs)[i]? = some (some v) ∧ Rp K G d v := by
  unfold startE at h
  by_cases hi : i < ds.length
  · rw [List.getElem?_append_left (by rw [List.length_map]; exact hi), List.getElem?_map] at h
    obtain ⟨d', h1, h2⟩ := Option.map_eq_some_iff.mp h
    cases h2
    obtain ⟨v, h3, h4⟩ := r.get h1
    refine ⟨v, ?_, h4⟩
    unfold L2.start
    rw [List.getElem?_append_left (by rw [List.length_map, r.length]; exact hi), List.getElem?_map, h3]
    rfl
  · rw [List.getElem?_append_right (by rw [List.length_map]; omega), List.getElem?_replicate] at h
    split at h <;> cases h
theorem body_ok {K : PySem.W.Frag} {N : List Str} {vs : List V} {H : Hp} {Q : VK} {E : XK} {k : Nat} {O O' : List Nat} {mb : Ms} (hO : lwB [] O = true) (h : spD K cm k nr (runF N.length mb) vs H Q E) : tS K cm (fun cls d _ H => E cls d H) nr O O' mb { nx := fun _ H' => Q .non H', rt := Q } (start N vs) H := by
  obtain ⟨ds, G, hl, s, r, po⟩ := h
  have I : SIw K H G [] (fun _ => []) [] (startE N.length ds) (start N vs) H := by
    refine ⟨Same.refl _, s, (fun a ha => by cases ha), (fun i a ha => by cases ha), (fun i => List.nodup_nil), (fun i j _ a ha => by cases ha), (fun i d e => ?_), ?_⟩
    · obtain ⟨v, h1, h2⟩ := rps_start r e
      refine ⟨v, h1, ?_⟩
      rw [show lv [] i = 0 from rfl, Ow.zero]
      exact ⟨rfl, h2.mono fun a o e => Vw.of (by simp) (.inl ⟨o, e⟩) (s _ _ e)⟩
    · unfold startE L2.start
      rw [List.length_append, List.length_append, List.length_map, List.length_map, List.length_replicate, List.length_replicate, r.length]
  refine ⟨H, G, startE N.length ds, SI.low (lwB_ok hO) ⟨_, _, I⟩, ?_⟩
  unfold runF at po
  cases hx : mb (startE N.length ds) with
  | nx Γ => rw [hx] at po; exact fun σ' H' ⟨Ls, S, J⟩ => po .non H' (Vw H G S H') [] ⟨J.h0, J.g0v, Vw.same, fun a o q => (Vw.inv q).2.1⟩ List.nodup_nil (fun a ha => by cases ha) (by cases nr <;> exact ⟨rfl, rfl⟩)
  | ret d => rw [hx] at po; exact fun v H' ⟨G', L, st, nd, fr, ow⟩ => po v H' G' L st nd fr ow
  | exc c => rw [hx] at po; exact fun σ' H' s => po H' s
  | bad => rw [hx] at po; exact po
end
end DL

set_option Elab.async false
set_option linter.all false
set_option maxRecDepth 100000
set_option maxHeartbeats 1000000
namespace DL
open PySem PySem.Spec PyProof.Rows L2

/-! ### lists that are changed -/
/-- what an operation makes of a list's items: data and values go along, owned parts too (L: the new item's) -/
def LOp (ds ds' : List Dt) (vs vs' : List V) (L : List Addr) (P : Dt → V → List Addr → Prop) : Prop :=
  ∀ L0, Ows P ds vs L0 → ∃ L1, Ows P ds' vs' L1 ∧ (∀ a ∈ L1, a ∈ L0 ∨ a ∈ L) ∧ ((L0 ++ L).Nodup → L1.Nodup)
section
variable {P : Dt → V → List Addr → Prop} {ds es : List Dt} {vs ws : List V} {d : Dt} {y : V} {L : List Addr}
theorem lop_append (p : P d y L) : LOp ds (ds ++ [d]) vs (vs ++ [y]) L P := fun L0 o => ⟨L0 ++ L, o.snoc p, fun a ha => List.mem_append.mp ha, fun h => h⟩
theorem Ows.split {i : Nat} : ∀ {ds : List Dt} {vs : List V} {L0 : List Addr}, i < ds.length → Ows P ds vs L0 →
    ∃ A M B u e, L0 = A ++ M ++ B ∧ ds[i]? = some e ∧ vs[i]? = some u ∧ P e u M ∧ Ows P (ds.take i) (vs.take i) A ∧ Ows P (ds.drop (i + 1)) (vs.drop (i + 1)) B := by
  induction i with
  | zero =>
    intro ds vs L0 hi o
    cases ds with
    | nil => simp at hi
    | cons e ds =>
      obtain ⟨v, r, L1, L2, rfl, rfl, p, q⟩ := o
      exact ⟨[], L1, L2, v, e, rfl, rfl, rfl, p, ⟨rfl, rfl⟩, q⟩
  | succ i ih =>
    intro ds vs L0 hi o
    cases ds with
    | nil => simp at hi
    | cons e ds =>
      obtain ⟨v, r, L1, L2, rfl, rfl, p, q⟩ := o
      obtain ⟨A, M, B, u, e', rfl, h1, h2, h3, h4, h5⟩ := ih (by simpa using hi) q
      exact ⟨L1 ++ A, M, B, u, e', by simp, by simpa using h1, by simpa using h2, h3, ⟨v, r.take i, L1, A, rfl, rfl, p, h4⟩, h5⟩
theorem Ows.append : ∀ {ds es : List Dt} {vs ws : List V} {A B : List Addr}, Ows P ds vs A → Ows P es ws B → Ows P (ds ++ es) (vs ++ ws) (A ++ B)
  | [], _, _, _, _, _, o, q => by rw [o.1, o.2]; exact q
  | d :: ds, es, _, ws, _, B, ⟨v, r, L1, L2, e1, e2, p, q⟩, o => by rw [e1, e2]; exact ⟨v, r ++ ws, L1, L2 ++ B, rfl, by simp, p, Ows.append q o⟩
/-- the i-th item exchanged -/
theorem Ows.exch {i : Nat} {A B : List Addr} (hd : i < ds.length) (hv : i < vs.length) (a : Ows P (ds.take i) (vs.take i) A) (b : Ows P (ds.drop (i + 1)) (vs.drop (i + 1)) B) (p : P d y L) : Ows P (ds.set i d) (vs.set i y) (A ++ L ++ B) := by
  rw [List.set_eq_take_append_cons_drop, List.set_eq_take_append_cons_drop, if_pos hd, if_pos hv, List.append_assoc]
  exact a.append ⟨y, vs.drop (i + 1), L, B, rfl, rfl, p, b⟩
theorem nodup_swap {A M B L : List Addr} (h : ((A ++ M ++ B) ++ L).Nodup) : (A ++ L ++ B).Nodup := by
  rw [List.nodup_append] at h
  obtain ⟨h1, h2, h3⟩ := h
  rw [List.nodup_append] at h1
  obtain ⟨h4, h5, h6⟩ := h1
  rw [List.nodup_append] at h4
  rw [List.nodup_append, List.nodup_append]
  refine ⟨⟨h4.1, h2, fun a ha b hb => h3 a (by simp [ha]) b hb⟩, h5, fun a ha b hb => ?_⟩
  rcases List.mem_append.mp ha with ha | ha
  · exact h6 a (List.mem_append_left _ ha) b hb
  · exact fun z => h3 b (by simp [hb]) a ha z.symm
theorem lop_set {i : Nat} (hi : i < ds.length) (p : P d y L) : LOp ds (ds.set i d) vs (vs.set i y) L P := fun L0 o => by
  obtain ⟨A, M, B, u, e, rfl, _, hv, _, h1, h2⟩ := Ows.split hi o
  refine ⟨A ++ L ++ B, Ows.exch hi (List.getElem?_eq_some_iff.mp hv).1 h1 h2 p, fun a ha => ?_, nodup_swap⟩
  simp only [List.mem_append] at ha ⊢
  rcases ha with (ha | ha) | ha
  · exact .inl (.inl (.inl ha))
  · exact .inr ha
  · exact .inl (.inr ha)
theorem Ows.take (i : Nat) : ∀ {ds : List Dt} {vs : List V} {L0 : List Addr}, Ows P ds vs L0 → ∃ A B, L0 = A ++ B ∧ Ows P (ds.take i) (vs.take i) A ∧ Ows P (ds.drop i) (vs.drop i) B := by
  induction i with
  | zero => intro ds vs L0 o; exact ⟨[], L0, rfl, ⟨rfl, rfl⟩, o⟩
  | succ i ih =>
    intro ds vs L0 o
    cases ds with
    | nil => exact ⟨[], L0, rfl, by rw [o.1]; exact ⟨rfl, rfl⟩, by rw [o.1, o.2]; exact ⟨rfl, rfl⟩⟩
    | cons e ds =>
      obtain ⟨v, r, L1, L2, rfl, rfl, p, q⟩ := o
      obtain ⟨A, B, rfl, h1, h2⟩ := ih q
      exact ⟨L1 ++ A, B, by simp, ⟨v, r.take i, L1, A, rfl, rfl, p, h1⟩, h2⟩
theorem nodup_rot {A B L : List Addr} (h : ((A ++ B) ++ L).Nodup) : (A ++ (L ++ B)).Nodup := by
  rw [← List.append_assoc]
  have := nodup_swap (A := A) (M := []) (B := B) (L := L) (by simpa using h)
  exact this
theorem lop_insert {i : Nat} (p : P d y L) : LOp ds (ds.take i ++ d :: ds.drop i) vs (vs.take i ++ y :: vs.drop i) L P := fun L0 o => by
  obtain ⟨A, B, rfl, h1, h2⟩ := Ows.take i o
  refine ⟨A ++ (L ++ B), h1.append ⟨y, vs.drop i, L, B, rfl, rfl, p, h2⟩, fun a ha => ?_, nodup_rot⟩
  simp only [List.mem_append] at ha ⊢
  rcases ha with ha | ha | ha
  · exact .inl (.inl ha)
  · exact .inr ha
  · exact .inl (.inr ha)
theorem lop_extend (p : Ows P es ws L) : LOp ds (ds ++ es) vs (vs ++ ws) L P := fun L0 o => ⟨L0 ++ L, o.append p, fun a ha => List.mem_append.mp ha, fun h => h⟩
theorem lop_dropLast : LOp ds ds.dropLast vs vs.dropLast [] P := fun L0 o => by
  obtain ⟨A, B, rfl, h1, h2⟩ := Ows.take (ds.length - 1) o
  have hl := Ows.length o
  rw [List.dropLast_eq_take, List.dropLast_eq_take, hl]
  exact ⟨A, h1, fun a ha => .inl (List.mem_append_left _ ha), fun h => (List.nodup_append.mp (List.nodup_append.mp h).1).1⟩
theorem lop_clear : LOp ds [] vs [] [] P := fun L0 o => ⟨[], ⟨rfl, rfl⟩, (fun a ha => by cases ha), fun _ => List.nodup_nil⟩
end

section
variable {K : PySem.W.Frag} {H0 G0 H H' G : Hp} {O O' : List Nat} {Ls : Nat → List Addr} {S : List Addr} {Γ : Ev} {σ : L2.St} {i n : Nat}
/-- new owned objects that no slot holds yet -/
theorem SIw.more {L : List Addr} (I : SIw K H0 G0 O Ls S Γ σ H) (hh : Same H H') (fr : ∀ a ∈ L, H a = none ∧ ∃ o, H' a = some o) : SIw K H0 G0 O Ls (L ++ S) Γ σ H' := by
  refine ⟨I.h0.trans hh, I.g0.trans hh, fun a ha => ?_, fun i a ha => List.mem_append_right _ (I.sub i a ha), I.nd, I.dj, fun i d e => ?_, I.len⟩
  · rcases List.mem_append.mp ha with ha | ha
    · exact ⟨none_back I.h0 (fr a ha).1, none_back I.g0 (fr a ha).1, (fr a ha).2⟩
    · exact ⟨(I.own a ha).1, (I.own a ha).2.1, let ⟨o, e⟩ := (I.own a ha).2.2; ⟨o, hh _ _ e⟩⟩
  · obtain ⟨u, h1, h2⟩ := I.rep i d e
    refine ⟨u, h1, h2.mono hh (Vw.mono hh fun a q ⟨o, e⟩ => ?_)⟩
    rcases List.mem_append.mp q with q | q
    · rw [(fr a q).1] at e; cases e
    · exact q
/-- an owned object of slot i is changed; L: its new items' own, of no slot yet -/
theorem SIw.write {a : Addr} {o : HO} {d' : Dt} {v : V} {L1 L : List Addr} (I : SIw K H0 G0 O Ls S Γ σ H) (ha : a ∈ Ls i) (hσ : σ[i]? = some (some v)) (ow : Ow K (upd H a o) (Vw H0 G0 S H) (lv O i) d' v L1) (hnd : L1.Nodup)
    (hs : ∀ b ∈ L1, b ∈ Ls i ∨ b ∈ L) (hL : ∀ b ∈ L, b ∈ S ∧ ∀ j, b ∉ Ls j) : SI K H0 G0 O (Γ.set i (some d')) σ (upd H a o) := by
  have haS := I.sub i a ha
  have keep : ∀ {b u}, b ≠ a → H b = some u → upd H a o b = some u := fun h e => by rw [upd_ne h]; exact e
  have h0 : Same H0 (upd H a o) := fun b u e => keep (fun z => by rw [z, (I.own a haS).1] at e; cases e) (I.h0 _ _ e)
  have g0 : Same G0 (upd H a o) := fun b u e => keep (fun z => by rw [z, (I.own a haS).2.1] at e; cases e) (I.g0 _ _ e)
  have sv : Same (Vw H0 G0 S H) (Vw H0 G0 S (upd H a o)) := fun b u e => by
    obtain ⟨h1, h2, h3⟩ := Vw.inv e
    exact Vw.of h1 h2 (keep (fun z => h1 (z ▸ haS)) h3)
  have hn : ∀ b ∈ L1, ∀ j, j ≠ i → b ∉ Ls j := fun b hb j hj => by
    rcases hs b hb with q | q
    · exact I.dj i j (fun z => hj z.symm) b q
    · exact (hL b q).2 j
  have hi : i < σ.length := (List.getElem?_eq_some_iff.mp hσ).1
  refine ⟨fun j => if j = i then L1 else Ls j, S, h0, g0, fun b hb => ⟨(I.own b hb).1, (I.own b hb).2.1, ?_⟩, fun j b hb => ?_, fun j => ?_, fun j k hjk b hb => ?_, fun j d e => ?_, by rw [List.length_set]; exact I.len⟩
  · by_cases hba : b = a
    · exact ⟨o, by rw [hba, upd_same]⟩
    · obtain ⟨u, e⟩ := (I.own b hb).2.2
      exact ⟨u, keep hba e⟩
  · by_cases hj : j = i
    · rw [if_pos hj] at hb
      rcases hs b hb with q | q
      · exact I.sub i b q
      · exact (hL b q).1
    · rw [if_neg hj] at hb; exact I.sub j b hb
  · skip
    split
    · exact hnd
    · exact I.nd j
  · by_cases hj : j = i
    · rw [if_pos hj] at hb
      have hk : k ≠ i := fun z => hjk (hj.trans z.symm)
      rw [if_neg hk]
      exact hn b hb k hk
    · rw [if_neg hj] at hb
      by_cases hk : k = i
      · rw [if_pos hk]
        exact fun q => hn b q j hj hb
      · rw [if_neg hk]; exact I.dj j k hjk b hb
  · by_cases hj : j = i
    · subst hj
      rw [List.getElem?_set_self (by rw [I.len]; exact hi)] at e
      cases e
      refine ⟨v, hσ, ?_⟩
      rw [if_pos rfl]
      exact ow.mono (Same.refl _) sv
    · rw [List.getElem?_set_ne (fun z => hj z.symm)] at e
      obtain ⟨u, h1, h2⟩ := I.rep j d e
      refine ⟨u, h1, ?_⟩
      rw [if_neg hj]
      exact h2.move sv fun b hb u e => keep (fun z => I.dj i j (fun w => hj w.symm) a ha (z ▸ hb)) e
/-- the list of slot i itself is changed -/
theorem SIw.top {ds ds' : List Dt} {L : List Addr} (I : SIw K H0 G0 O Ls S Γ σ H) (hΓ : Γ[i]? = some (some (.lst ds))) (hn : lv O i = n + 1) (ndL : L.Nodup) (hL : ∀ b ∈ L, b ∈ S ∧ ∀ j, b ∉ Ls j) :
    ∃ a vs, σ[i]? = some (some (.ref a)) ∧ H a = some (.lst vs) ∧ vs.length = ds.length ∧ (∀ (vs' : List V), LOp ds ds' vs vs' L (Ow K (upd H a (.lst vs')) (Vw H0 G0 S H) n) → SI K H0 G0 O (Γ.set i (some (.lst ds'))) σ (upd H a (.lst vs'))) ∧ a ∈ S ∧ a ∉ L := by
  obtain ⟨v, h1, h2⟩ := I.rep i _ hΓ
  rw [hn] at h2
  obtain ⟨a, vs, L', rfl, e2, e3, q⟩ := h2
  have ha : a ∈ Ls i := by rw [e3]; exact List.mem_cons_self
  refine ⟨a, vs, h1, e2, Ows.length q, fun vs' op => ?_, I.sub i a ha, fun z => (hL a z).2 i ha⟩
  have hnd := I.nd i
  rw [e3] at hnd
  obtain ⟨haL', hnd'⟩ := List.nodup_cons.mp hnd
  have q2 : Ows (Ow K (upd H a (.lst vs')) (Vw H0 G0 S H) n) ds vs L' := q.monoL fun d v L1 hs o => o.move (Same.refl _) fun b hb u e => by
    rw [upd_ne (fun z => haL' (by rw [← z]; exact hs b hb))]; exact e
  obtain ⟨L1, o1, h3, h4⟩ := op L' q2
  have hdis : (L' ++ L).Nodup := List.nodup_append.mpr ⟨hnd', ndL, fun b hb c hc z => (hL c hc).2 i (by rw [e3, ← z]; exact List.mem_cons_of_mem _ hb)⟩
  have ha1 : a ∉ L1 := fun z => (h3 a z).elim haL' fun w => (hL a w).2 i ha
  refine I.write (L1 := a :: L1) ha h1 (by rw [hn]; exact ⟨a, vs', L1, rfl, upd_same, rfl, o1⟩) (List.nodup_cons.mpr ⟨ha1, h4 hdis⟩) (fun b hb => ?_) hL
  rcases List.mem_cons.mp hb with rfl | hb
  · exact .inl ha
  · rcases h3 b hb with w | w
    · exact .inl (by rw [e3]; exact List.mem_cons_of_mem _ w)
    · exact .inr w
/-- a row of the list of slot i is changed, by scalars -/
theorem SIw.row {ds es es' : List Dt} {p : Nat} (I : SIw K H0 G0 O Ls S Γ σ H) (hΓ : Γ[i]? = some (some (.lst ds))) (hn : lv O i = n + 2) (hp : ds[p]? = some (.lst es)) :
    ∃ a vs b ws, σ[i]? = some (some (.ref a)) ∧ H a = some (.lst vs) ∧ vs.length = ds.length ∧ vs[p]? = some (.ref b) ∧ H b = some (.lst ws) ∧ ws.length = es.length ∧
      (∀ (ws' : List V), LOp es es' ws ws' [] (Ow K (upd H b (.lst ws')) (Vw H0 G0 S H) n) → SI K H0 G0 O (Γ.set i (some (.lst (ds.set p (.lst es'))))) σ (upd H b (.lst ws'))) ∧ b ∈ S := by
  obtain ⟨v, h1, h2⟩ := I.rep i _ hΓ
  rw [hn] at h2
  obtain ⟨a, vs, L', rfl, e2, e3, q⟩ := h2
  have hpl : p < ds.length := (List.getElem?_eq_some_iff.mp hp).1
  obtain ⟨A, M, B, u, e, rfl, h3, h4, h5, h6, h6'⟩ := Ows.split hpl q
  rw [hp] at h3
  cases h3
  obtain ⟨b, ws, M', rfl, f2, f3, f4⟩ := h5
  have hb : b ∈ Ls i := by rw [e3, f3]; simp
  refine ⟨a, vs, b, ws, h1, e2, Ows.length q, h4, f2, Ows.length f4, fun ws' op => ?_, I.sub i b hb⟩
  have hnd := I.nd i
  rw [e3, f3] at hnd
  obtain ⟨haL, hnd'⟩ := List.nodup_cons.mp hnd
  have hba : b ≠ a := fun z => haL (by rw [← z]; simp)
  have hnd3 := List.nodup_append.mp hnd'
  have hnd4 := List.nodup_append.mp hnd3.1
  obtain ⟨hbM, hM'⟩ := List.nodup_cons.mp hnd4.2.1
  have hbA : b ∉ A := fun z => hnd4.2.2 b z b List.mem_cons_self rfl
  have hbB : b ∉ B := fun z => hnd3.2.2 b (by simp) b z rfl
  have mv : ∀ {n ds vs L}, b ∉ L → Ows (Ow K H (Vw H0 G0 S H) n) ds vs L → Ows (Ow K (upd H b (.lst ws')) (Vw H0 G0 S H) n) ds vs L := fun {n ds vs L} hb o => o.monoL fun d v L1 hs o => o.move (Same.refl _) fun c hc u e => by
    rw [upd_ne (fun z => hb (by rw [← z]; exact hs c hc))]; exact e
  obtain ⟨M1, o1, h7, h8⟩ := op M' (mv hbM f4)
  have hM1 : ∀ c ∈ M1, c ∈ M' := fun c hc => (h7 c hc).elim id fun z => by cases z
  have hbM1 : b ∉ M1 := fun z => hbM (hM1 b z)
  have row : Ow K (upd H b (.lst ws')) (Vw H0 G0 S H) (n + 1) (.lst es') (.ref b) (b :: M1) := ⟨b, ws', M1, rfl, upd_same, rfl, o1⟩
  have same : vs.set p (.ref b) = vs := by
    obtain ⟨hl, e⟩ := List.getElem?_eq_some_iff.mp h4
    rw [← e]
    exact List.set_getElem_self hl
  have q4 := Ows.exch hpl (List.getElem?_eq_some_iff.mp h4).1 (mv hbA h6) (mv hbB h6') row
  rw [same] at q4
  have hM1nd : M1.Nodup := h8 (by rw [List.append_nil]; exact hM')
  refine I.write (L1 := a :: (A ++ (b :: M1) ++ B)) (L := []) hb h1 ?_ ?_ (fun c hc => .inl ?_) (fun c hc => by cases hc)
  · rw [hn]
    exact ⟨a, vs, A ++ (b :: M1) ++ B, rfl, by rw [upd_ne (fun z => hba z.symm)]; exact e2, rfl, q4⟩
  · refine List.nodup_cons.mpr ⟨fun z => haL ?_, List.nodup_append.mpr ⟨List.nodup_append.mpr ⟨hnd4.1, List.nodup_cons.mpr ⟨hbM1, hM1nd⟩, fun c hc d hd => ?_⟩, hnd3.2.1, fun c hc d hd => ?_⟩⟩
    · simp only [List.mem_append, List.mem_cons] at z ⊢
      rcases z with (z | z | z) | z
      · exact .inl (.inl z)
      · exact .inl (.inr (.inl z))
      · exact .inl (.inr (.inr (hM1 a z)))
      · exact .inr z
    · refine hnd4.2.2 c hc d ?_
      rcases List.mem_cons.mp hd with rfl | hd
      · exact List.mem_cons_self
      · exact List.mem_cons_of_mem _ (hM1 d hd)
    · refine hnd3.2.2 c ?_ d hd
      rcases List.mem_append.mp hc with hc | hc
      · exact List.mem_append_left _ hc
      · refine List.mem_append_right _ ?_
        rcases List.mem_cons.mp hc with rfl | hc
        · exact List.mem_cons_self
        · exact List.mem_cons_of_mem _ (hM1 c hc)
  · rw [e3, f3]
    simp only [List.mem_cons, List.mem_append] at hc ⊢
    rcases hc with hc | (hc | hc | hc) | hc
    · exact .inl hc
    · exact .inr (.inl (.inl hc))
    · exact .inr (.inl (.inr (.inl hc)))
    · exact .inr (.inl (.inr (.inr (hM1 c hc))))
    · exact .inr (.inr hc)
end
end DL

set_option Elab.async false
set_option linter.all false
set_option maxRecDepth 100000
set_option maxHeartbeats 1000000
namespace DL
open PySem PySem.Spec PyProof.Rows L2

/-- the list that slot i holds -/
def onL (Γ : Ev) (i : Nat) (f : List Dt → Out) : Out := match Γ[i]? with
  | some (some (.lst ds)) => f ds
  | _ => .bad
@[simp] theorem onL_eq {Γ : Ev} {i : Nat} {ds : List Dt} {f : List Dt → Out} (h : Γ[i]? = some (some (.lst ds))) : onL Γ i f = f ds := by unfold onL; rw [h]
theorem onL_inv {Γ : Ev} {i : Nat} {f : List Dt → Out} : (∃ ds, Γ[i]? = some (some (.lst ds)) ∧ onL Γ i f = f ds) ∨ onL Γ i f = .bad := by
  unfold onL
  cases h : Γ[i]? with
  | none => exact .inr rfl
  | some o =>
    cases o with
    | none => exact .inr rfl
    | some d =>
      cases d with
      | lst ds => exact .inl ⟨ds, rfl, rfl⟩
      | _ => exact .inr rfl
/-- a row of that list -/
def onR (ds : List Dt) (j : Dt) (f : Nat → List Dt → Out) : Out := match j with
  | .int z => match ixN ds.length z with
    | some p => match ds[p]? with
      | some (.lst es) => f p es
      | _ => .bad
    | none => .bad
  | _ => .bad
theorem onR_inv {ds : List Dt} {j : Dt} {f : Nat → List Dt → Out} : (∃ z p es, j = .int z ∧ ixN ds.length z = some p ∧ ds[p]? = some (.lst es) ∧ onR ds j f = f p es) ∨ onR ds j f = .bad := by
  unfold onR
  cases j with
  | int z =>
    dsimp only
    cases h : ixN ds.length z with
    | none => exact .inr rfl
    | some p =>
      dsimp only
      cases h2 : ds[p]? with
      | none => exact .inr rfl
      | some d =>
        cases d with
        | lst es => exact .inl ⟨z, p, es, rfl, h, h2, rfl⟩
        | _ => exact .inr rfl
  | _ => exact .inr rfl
def onI (j : Dt) (f : Int → Out) : Out := match j with
  | .int z => f z
  | _ => .bad
theorem onI_inv {j : Dt} {f : Int → Out} : (∃ z, j = .int z ∧ onI j f = f z) ∨ onI j f = .bad := by
  cases j <;> first | exact .inl ⟨_, rfl, rfl⟩ | exact .inr rfl
def ifO (b : Bool) (o : Out) : Out := if b = true then o else .bad
@[simp] theorem ifO_true (o : Out) : ifO true o = o := rfl
@[simp] theorem ifO_false (o : Out) : ifO false o = .bad := rfl

def rInsert : V → List V → Hp → VK → Prop := fun x vs H Q => ∃ (l : Addr) (xs : List V) (i : Int) (y : V), x = .ref l ∧ vs = [.int i, y] ∧ H l = some (.lst xs) ∧ xs.length < sizeLine ∧ 0 ≤ i ∧ i < 2 ^ 63 ∧
  Q .non (upd H l (.lst (xs.take i.toNat ++ [y] ++ xs.drop i.toNat)))
def sAppT (i k : Nat) (m : Mr) : Ms := fun Γ => onL Γ i fun ds => toOut (m Γ) fun d => ifO (deep k d && decide (ds.length < 16777216)) (.nx (Γ.set i (some (.lst (ds ++ [d])))))
def sAppP (O : List Nat) (i : Nat) (m : Mr) : Ms := fun Γ => onL Γ i fun ds => toOut (m (mask O Γ)) fun d => ifO (decide (ds.length < 16777216)) (.nx (Γ.set i (some (.lst (ds ++ [d])))))
def sIns (i : Nat) (m1 m2 : Mr) : Ms := fun Γ => onL Γ i fun ds => toOut (m1 Γ) fun j => toOut (m2 Γ) fun d => onI j fun z =>
  ifO (isScal d && decide (0 ≤ z) && decide (z < 2 ^ 63) && decide (ds.length < 16777216)) (.nx (Γ.set i (some (.lst (ds.take z.toNat ++ d :: ds.drop z.toNat)))))
def sExtP (O : List Nat) (i : Nat) (m : Mr) : Ms := fun Γ => onL Γ i fun ds => toOut (m (mask O Γ)) fun d => match d with
  | .lst es => ifO (decide (ds.length + es.length ≤ 16777216)) (.nx (Γ.set i (some (.lst (ds ++ es)))))
  | _ => .bad
def atN (n : Nat) (z : Int) (f : Nat → Out) : Out := match ixN n z with
  | some p => f p
  | none => .bad
def sSetT (i k : Nat) (mv mi : Mr) : Ms := fun Γ => onL Γ i fun ds => toOut (mv Γ) fun d => toOut (mi Γ) fun j => ifO (deep k d) (onI j fun z => atN ds.length z fun p => .nx (Γ.set i (some (.lst (ds.set p d)))))
def sSet2 (i : Nat) (mv m1 m2 : Mr) : Ms := fun Γ => onL Γ i fun ds => toOut (mv Γ) fun d => toOut (m1 Γ) fun j1 => onR ds j1 fun p es => toOut (m2 Γ) fun j2 => ifO (isScal d) (onI j2 fun z => atN es.length z fun q => .nx (Γ.set i (some (.lst (ds.set p (.lst (es.set q d)))))))
def sAppR (i : Nat) (m1 mv : Mr) : Ms := fun Γ => onL Γ i fun ds => toOut (m1 Γ) fun j1 => onR ds j1 fun p es => toOut (mv Γ) fun d => ifO (isScal d && decide (es.length < 16777216)) (.nx (Γ.set i (some (.lst (ds.set p (.lst (es ++ [d])))))))
def sClrR (i : Nat) (m1 : Mr) : Ms := fun Γ => onL Γ i fun ds => toOut (m1 Γ) fun j1 => onR ds j1 fun p es => .nx (Γ.set i (some (.lst (ds.set p (.lst [])))))
def sPop (i : Nat) : Ms := fun Γ => onL Γ i fun ds => ifO (!ds.isEmpty) (.nx (Γ.set i (some (.lst ds.dropLast))))
theorem atN_po {K : PySem.W.Frag} {cm : Nat → Value} {W : WX} {nr : Nat} {O : List Nat} {H0 G0 : Hp} {n : Nat} {z : Int} {f : Nat → Out} {D : Ends} (po : SPost K cm W nr H0 G0 O (atN n z f) D) : ∃ p, ixN n z = some p ∧ SPost K cm W nr H0 G0 O (f p) D := by
  unfold atN at po
  cases h : ixN n z with
  | none => rw [h] at po; exact po.elim
  | some p => rw [h] at po; exact ⟨p, rfl, po⟩

section
variable {X : Cx} {cm : Nat → Value} {W : WX} {nr : Nat} {O O' : List Nat} {i k n : Nat} {o e e1 e2 e3 : Expr} {me m1 m2 m3 : Mr} {ap cp p1 p2 pos : Pos}
theorem lst_ty {K : PySem.W.Frag} {H : Hp} {a : Addr} {vs : List V} (h : H a = some (.lst vs)) : tyV K "list" (.ref a) H := .inl ⟨rfl, vs, .inl (.inl h)⟩
/-- a scalar in a T-read: what a statement needs of it -/
theorem tD_S {H0 G0 H : Hp} {Ls : Nat → List Addr} {S : List Addr} {Γ : Ev} {σ : L2.St} {m : Mr} {Q : VK} {f : Dt → Out} {D : Ends} (I : SIw X.K H0 G0 O Ls S Γ σ H) (po : SPost X.K cm W nr H0 G0 O' (toOut (m Γ) f) D)
    (q : ∀ d v H', Same H H' → SPost X.K cm W nr H0 G0 O' (f d) D → (isScal d = true → Rp X.K H' d v) → (∀ z, d = .int z → v = .int z) → Q v H') : tD X.K cm (WE W) 0 m σ H Q := by
  refine tD_T I (fun c e H' s => ?_) (fun e => ?_) fun d v H' G' L e hh st nd fr ow => ?_
  · rw [e] at po; exact po σ H' s
  · rw [e] at po; exact po
  · rw [e, toOut_ok] at po
    rw [Ow.zero] at ow
    exact q d v H' hh po (fun _ => ow.2.mono st.s) fun z hz => by subst hz; exact ow.2
theorem ifO_po {K : PySem.W.Frag} {H0 G0 : Hp} {b : Bool} {o : Out} {D : Ends} (po : SPost K cm W nr H0 G0 O (ifO b o) D) : b = true ∧ SPost K cm W nr H0 G0 O o D := by
  cases b with
  | true => exact ⟨rfl, po⟩
  | false => exact (show False from po).elim
theorem onL_po {K : PySem.W.Frag} {H0 G0 : Hp} {Γ : Ev} {f : List Dt → Out} {D : Ends} (po : SPost K cm W nr H0 G0 O (onL Γ i f) D) : ∃ ds, Γ[i]? = some (some (.lst ds)) ∧ SPost K cm W nr H0 G0 O (f ds) D := by
  rcases onL_inv (Γ := Γ) (i := i) (f := f) with ⟨ds, h1, h2⟩ | h
  · rw [h2] at po; exact ⟨ds, h1, po⟩
  · rw [h] at po; exact po.elim
theorem onR_po {K : PySem.W.Frag} {H0 G0 : Hp} {ds : List Dt} {j : Dt} {f : Nat → List Dt → Out} {D : Ends} (po : SPost K cm W nr H0 G0 O (onR ds j f) D) : ∃ z p es, j = .int z ∧ ixN ds.length z = some p ∧ ds[p]? = some (.lst es) ∧ SPost K cm W nr H0 G0 O (f p es) D := by
  rcases onR_inv (ds := ds) (j := j) (f := f) with ⟨z, p, es, h1, h2, h3, h4⟩ | h
  · rw [h4] at po; exact ⟨z, p, es, h1, h2, h3, po⟩
  · rw [h] at po; exact po.elim
theorem onI_po {K : PySem.W.Frag} {H0 G0 : Hp} {j : Dt} {f : Int → Out} {D : Ends} (po : SPost K cm W nr H0 G0 O (onI j f) D) : ∃ z, j = .int z ∧ SPost K cm W nr H0 G0 O (f z) D := by
  rcases onI_inv (j := j) (f := f) with ⟨z, h1, h2⟩ | h
  · rw [h2] at po; exact ⟨z, h1, po⟩
  · rw [h] at po; exact po.elim
theorem rp_ow {K : PySem.W.Frag} {G H' G' : Hp} {d : Dt} {v : V} (h : isScal d = true) (r : Rp K G d v) : Ow K H' G' n d v [] :=
  (Ow.scal (H := G) (G := G) (n := 0) (L := []) h (by rw [Ow.zero]; exact ⟨rfl, r⟩)).2.1
theorem nil_fr {P : Addr → Prop} : ∀ b ∈ ([] : List Addr), P b := fun b h => by cases h
theorem fresh_no {K : PySem.W.Frag} {H0 G0 H : Hp} {Ls : Nat → List Addr} {S L : List Addr} {Γ : Ev} {σ : L2.St} (I : SIw K H0 G0 O Ls S Γ σ H) (fr : ∀ a ∈ L, H a = none) : ∀ b ∈ L, b ∈ L ++ S ∧ ∀ j, b ∉ Ls j := fun b hb =>
  ⟨List.mem_append_left _ hb, fun j q => by
    obtain ⟨u, e⟩ := (I.own b (I.sub j b q)).2.2
    rw [fr b hb] at e; cases e⟩
theorem and_t {a b : Bool} (h : (a && b) = true) : a = true ∧ b = true := by simpa using h
section
variable (hO : lv O i = n + 1)
include hO
theorem ds_appT (hk : k ≤ n) (h : PE X e (tBM X.K "list" rAppend (tVar i) (tCons (tD X.K cm (WE W) k me) tNil))) (hs : swapsWith e none pos.line X.env = pure false := by rfl) : DS X cm W nr O O (.Expr e pos) (sAppT i k me) := by
  refine PS.of (ps_expr h hs) fun D σ H ⟨H0, G0, Γ, ⟨Ls, S, I⟩, po⟩ => ?_
  obtain ⟨ds, hΓ, po⟩ := onL_po po
  obtain ⟨a, vs, hσ, hH, hlen, _⟩ := I.top (ds' := ds) hΓ hO List.nodup_nil nil_fr
  refine ⟨.ref a, hσ, lst_ty hH, ?_⟩
  refine tD_T I (fun c e H' s => ?_) (fun e => ?_) fun d v H' G' L e hh st nd fr ow => ?_
  · rw [e] at po; exact po σ H' s
  · rw [e] at po; exact po
  · rw [e, toOut_ok] at po
    obtain ⟨hc, po⟩ := ifO_po po
    obtain ⟨hd, hz⟩ := and_t hc
    have hz := of_decide_eq_true hz
    have J := I.more hh (fun b hb => ⟨(fr b hb).1, ow.there b hb⟩)
    obtain ⟨a', vs', hσ', hH', hlen', fin, haS, haL⟩ := J.top (ds' := ds ++ [d]) hΓ hO nd (fresh_no I fun b hb => (fr b hb).1)
    rw [hσ] at hσ'
    cases hσ'
    rw [hh _ _ hH] at hH'
    cases hH'
    refine ⟨a, vs, v, rfl, rfl, hh _ _ hH, by rw [hlen, sizeLine_eq]; exact hz, po _ _ (fin (vs ++ [v]) (lop_append ?_))⟩
    refine (ow.deep (G' := Vw H0 G0 (L ++ S) H') hd hk).move (Same.refl _) fun b hb u e => ?_
    rw [upd_ne (fun z => haL (by rw [← z]; exact hb))]; exact e
theorem ds_appP (h : PE X e (tBM X.K "list" rAppend (tVar i) (tCons (tD X.K cm (WE W) n me) tNil))) (hs : swapsWith e none pos.line X.env = pure false := by rfl) : DS X cm W nr O O (.Expr e pos) (sAppP O i me) := by
  refine PS.of (ps_expr h hs) fun D σ H ⟨H0, G0, Γ, ⟨Ls, S, I⟩, po⟩ => ?_
  obtain ⟨ds, hΓ, po⟩ := onL_po po
  obtain ⟨a, vs, hσ, hH, hlen, _⟩ := I.top (ds' := ds) hΓ hO List.nodup_nil nil_fr
  refine ⟨.ref a, hσ, lst_ty hH, ?_⟩
  refine tD_P I (fun c e H' s => ?_) (fun e => ?_) fun d v H' G' L e hh st nd fr ow => ?_
  · rw [e] at po; exact po σ H' s
  · rw [e] at po; exact po
  · rw [e, toOut_ok] at po
    obtain ⟨hz, po⟩ := ifO_po po
    have hz := of_decide_eq_true hz
    have J := I.more hh (fun b hb => ⟨(fr b hb).1, ow.there b hb⟩)
    obtain ⟨a', vs', hσ', hH', hlen', fin, haS, haL⟩ := J.top (ds' := ds ++ [d]) hΓ hO nd (fresh_no I fun b hb => (fr b hb).1)
    rw [hσ] at hσ'
    cases hσ'
    rw [hh _ _ hH] at hH'
    cases hH'
    refine ⟨a, vs, v, rfl, rfl, hh _ _ hH, by rw [hlen, sizeLine_eq]; exact hz, po _ _ (fin (vs ++ [v]) (lop_append ?_))⟩
    refine ow.move (view_P I st fr) fun b hb u e => ?_
    rw [upd_ne (fun z => haL (by rw [← z]; exact hb))]; exact e
theorem ds_extP (hn : n = 0) (h : PE X e (tBM X.K "list" rExtend (tVar i) (tCons (tD X.K cm (WE W) 0 me) tNil))) (hs : swapsWith e none pos.line X.env = pure false := by rfl) : DS X cm W nr O O (.Expr e pos) (sExtP O i me) := by
  subst hn
  refine PS.of (ps_expr h hs) fun D σ H ⟨H0, G0, Γ, ⟨Ls, S, I⟩, po⟩ => ?_
  obtain ⟨ds, hΓ, po⟩ := onL_po po
  obtain ⟨a, vs, hσ, hH, hlen, _⟩ := I.top (ds' := ds) hΓ hO List.nodup_nil nil_fr
  refine ⟨.ref a, hσ, lst_ty hH, ?_⟩
  refine tD_P I (fun c e H' s => ?_) (fun e => ?_) fun d v H' G' L e hh st nd fr ow => ?_
  · rw [e] at po; exact po σ H' s
  · rw [e] at po; exact po
  · rw [e, toOut_ok] at po
    cases d with
    | lst es =>
      obtain ⟨hz, po⟩ := ifO_po po
      have hz := of_decide_eq_true hz
      rw [Ow.zero] at ow
      obtain ⟨rfl, b, ws, rfl, hGb, rb⟩ := ow
      obtain ⟨a', vs', hσ', hH', hlen', fin, haS, haL⟩ := (I.grow hh).top (ds' := ds ++ es) hΓ hO List.nodup_nil nil_fr
      rw [hσ] at hσ'
      cases hσ'
      rw [hh _ _ hH] at hH'
      cases hH'
      refine ⟨a, b, vs, ws, rfl, rfl, hh _ _ hH, st.s _ _ hGb, by rw [hlen, rb.length, sizeLine_eq]; exact hz, po _ _ (fin (vs ++ ws) (lop_extend (Ows.of_zero (rb.mono ?_))))⟩
      exact view_P I st fr
    | _ => exact (show False from po).elim
theorem ds_ins (h : PE X e (tBM X.K "list" rInsert (tVar i) (tCons (tD X.K cm (WE W) 0 m1) (tCons (tD X.K cm (WE W) 0 m2) tNil)))) (hs : swapsWith e none pos.line X.env = pure false := by rfl) : DS X cm W nr O O (.Expr e pos) (sIns i m1 m2) := by
  refine PS.of (ps_expr h hs) fun D σ H ⟨H0, G0, Γ, ⟨Ls, S, I⟩, po⟩ => ?_
  obtain ⟨ds, hΓ, po⟩ := onL_po po
  obtain ⟨a, vs, hσ, hH, hlen, _⟩ := I.top (ds' := ds) hΓ hO List.nodup_nil nil_fr
  refine ⟨.ref a, hσ, lst_ty hH, ?_⟩
  refine tD_S I po fun j u H1 hh1 po1 _ hj => ?_
  refine tD_S (I.grow hh1) po1 fun d v H2 hh2 po2 hv _ => ?_
  obtain ⟨z, rfl, po2⟩ := onI_po po2
  obtain ⟨hc, po2⟩ := ifO_po po2
  obtain ⟨hc, hz⟩ := and_t hc
  obtain ⟨hc, hz2⟩ := and_t hc
  obtain ⟨hd, hz1⟩ := and_t hc
  have hz := of_decide_eq_true hz
  have hh := hh1.trans hh2
  obtain ⟨a', vs', hσ', hH', hlen', fin, haS, haL⟩ := (I.grow hh).top (ds' := ds.take z.toNat ++ d :: ds.drop z.toNat) hΓ hO List.nodup_nil nil_fr
  rw [hσ] at hσ'
  cases hσ'
  rw [hh _ _ hH] at hH'
  cases hH'
  refine ⟨a, vs, z, v, rfl, by rw [hj z rfl], hh _ _ hH, by rw [hlen, sizeLine_eq]; exact hz, of_decide_eq_true hz1, of_decide_eq_true hz2, ?_⟩
  rw [List.append_assoc]
  exact po2 _ _ (fin _ (lop_insert (rp_ow hd (hv hd))))
theorem ds_setI (hk : k ≤ n) {tg : Expr} (he : DE X cm (WE W) k e me) (hg : PG X tg (gSub (tVar i) (tD X.K cm (WE W) 0 m1) rSetL)) (hs : swapsWithSole [tg] e pos.line X.env = pure false := by rfl) (hw : swappedStores [tg] e X.env = pure none := by rfl)
    (h1 : (assignEach [tg] X.env).map (·.2) = [assign tg X.env] := by rfl) : DS X cm W nr O O (.Assign [tg] e pos) (sSetT i k me m1) := by
  refine PS.of (ps_asg he hg hs hw h1) fun D σ H ⟨H0, G0, Γ, ⟨Ls, S, I⟩, po⟩ => ?_
  obtain ⟨ds, hΓ, po⟩ := onL_po po
  refine tD_T I (fun c e H' s => ?_) (fun e => ?_) fun d v H' G' L e hh st nd fr ow => ?_
  · rw [e] at po; exact po σ H' s
  · rw [e] at po; exact po
  · rw [e, toOut_ok] at po
    have J := I.more hh (fun b hb => ⟨(fr b hb).1, ow.there b hb⟩)
    obtain ⟨a, vs, hσ, hH, hlen, _⟩ := J.top (ds' := ds) hΓ hO List.nodup_nil nil_fr
    refine ⟨.ref a, hσ, ?_⟩
    refine tD_S J po fun j u H1 hh1 po1 _ hj => ?_
    obtain ⟨hd, po1⟩ := ifO_po po1
    obtain ⟨z, rfl, po1⟩ := onI_po po1
    obtain ⟨p, hp, po1⟩ := atN_po po1
    obtain ⟨a', vs', hσ', hH', hlen', fin, haS, haL⟩ := (J.grow hh1).top (ds' := ds.set p d) hΓ hO nd (fresh_no I fun b hb => (fr b hb).1)
    rw [hσ] at hσ'
    cases hσ'
    rw [hh1 _ _ hH] at hH'
    cases hH'
    have hpl : p < ds.length := (ixN_seq hp).2.1
    refine ⟨a, vs, z, p, rfl, hj z rfl, hh1 _ _ hH, by rw [hlen]; exact hp, po1 _ _ (fin (vs.set p v) (lop_set hpl ?_))⟩
    refine ((ow.deep (G' := Vw H0 G0 (L ++ S) H1) hd hk).mono hh1 (Same.refl _)).move (Same.refl _) fun b hb u e => ?_
    rw [upd_ne (fun z => haL (by rw [← z]; exact hb))]; exact e
theorem ds_pop (h : PE X e (tBM0 X.K "list" rPop (tVar i))) (hs : swapsWith e none pos.line X.env = pure false := by rfl) : DS X cm W nr O O (.Expr e pos) (sPop i) := by
  refine PS.of (ps_expr h hs) fun D σ H ⟨H0, G0, Γ, ⟨Ls, S, I⟩, po⟩ => ?_
  obtain ⟨ds, hΓ, po⟩ := onL_po po
  obtain ⟨hc, po⟩ := ifO_po po
  obtain ⟨a, vs, hσ, hH, hlen, fin, haS, haL⟩ := I.top (ds' := ds.dropLast) hΓ hO List.nodup_nil nil_fr
  have hne : 0 < vs.length := by
    rw [hlen]
    cases ds with
    | nil => cases hc
    | cons d ds => simp
  exact ⟨.ref a, hσ, lst_ty hH, a, vs, vs[vs.length - 1], rfl, rfl, hH, List.getElem?_eq_getElem (by omega), po _ _ (fin _ lop_dropLast)⟩
end
section
variable (hO : lv O i = n + 2)
include hO
theorem row_ix {H0 G0 H : Hp} {Ls : Nat → List Addr} {S : List Addr} {Γ : Ev} {σ : L2.St} {a b : Addr} {vs : List V} {p : Nat} {z : Int} {Q : VK} (hσ : σ[i]? = some (some (.ref a))) (hH : H a = some (.lst vs)) (hp : ixN vs.length z = some p) (hb : vs[p]? = some (.ref b)) (q : Q (.ref b) H) : rIx X.K (.ref a) (.int z) H Q :=
  .inl ⟨a, vs, z, .ref b, rfl, rfl, .inl (.inl hH), by unfold atI; rw [hp]; exact hb, q⟩
theorem ds_set2 {tg : Expr} (he : DE X cm (WE W) 0 e me) (hg : PG X tg (gSub (tOp (rIx X.K) (tVar i) (tD X.K cm (WE W) 0 m1)) (tD X.K cm (WE W) 0 m2) rSetL)) (hs : swapsWithSole [tg] e pos.line X.env = pure false := by rfl) (hw : swappedStores [tg] e X.env = pure none := by rfl)
    (h1 : (assignEach [tg] X.env).map (·.2) = [assign tg X.env] := by rfl) : DS X cm W nr O O (.Assign [tg] e pos) (sSet2 i me m1 m2) := by
  refine PS.of (ps_asg he hg hs hw h1) fun D σ H ⟨H0, G0, Γ, ⟨Ls, S, I⟩, po⟩ => ?_
  obtain ⟨ds, hΓ, po⟩ := onL_po po
  refine tD_S I po fun d v H1 hh1 po1 hv _ => ?_
  have I1 := I.grow hh1
  obtain ⟨a0, vs0, hσ0, hH0, hlen0, _⟩ := I1.top (ds' := ds) (n := n + 1) hΓ hO List.nodup_nil nil_fr
  refine ⟨.ref a0, hσ0, ?_⟩
  refine tD_S I1 po1 fun j1 u1 H2 hh2 po2 _ hj1 => ?_
  have I2 := I1.grow hh2
  obtain ⟨z1, p, es, rfl, hp, hes, po2⟩ := onR_po po2
  obtain ⟨a, vs, b, ws, hσ, hH, hlen, hb, hHb, hwl, _, _⟩ := I2.row (es' := es) hΓ hO hes
  rw [hσ0] at hσ
  cases hσ
  rw [hj1 z1 rfl]
  refine row_ix hO (H0 := H0) (G0 := G0) (Ls := Ls) (S := S) (Γ := Γ) hσ0 hH (by rw [hlen]; exact hp) hb ?_
  refine tD_S I2 po2 fun j2 u2 H3 hh3 po3 _ hj2 => ?_
  obtain ⟨hd, po3⟩ := ifO_po po3
  obtain ⟨z2, rfl, po3⟩ := onI_po po3
  obtain ⟨q, hq, po3⟩ := atN_po po3
  have I3 := I2.grow hh3
  obtain ⟨a', vs', b', ws', hσ', hH', hlen', hb', hHb', hwl', fin, _⟩ := I3.row (es' := es.set q d) hΓ hO hes
  rw [hσ0] at hσ'
  cases hσ'
  rw [hh3 _ _ hH] at hH'
  cases hH'
  rw [hb] at hb'
  cases hb'
  rw [hh3 _ _ hHb] at hHb'
  cases hHb'
  exact ⟨b, ws, z2, q, rfl, hj2 z2 rfl, hh3 _ _ hHb, by rw [hwl]; exact hq, po3 _ _ (fin (ws.set q v) (lop_set (ixN_seq hq).2.1 (rp_ow hd (hv hd))))⟩
theorem ds_appR (h : PE X e (tBM X.K "list" rAppend (tOp (rIx X.K) (tVar i) (tD X.K cm (WE W) 0 m1)) (tCons (tD X.K cm (WE W) 0 me) tNil))) (hs : swapsWith e none pos.line X.env = pure false := by rfl) : DS X cm W nr O O (.Expr e pos) (sAppR i m1 me) := by
  refine PS.of (ps_expr h hs) fun D σ H ⟨H0, G0, Γ, ⟨Ls, S, I⟩, po⟩ => ?_
  obtain ⟨ds, hΓ, po⟩ := onL_po po
  obtain ⟨a0, vs0, hσ0, hH0, hlen0, _⟩ := I.top (ds' := ds) (n := n + 1) hΓ hO List.nodup_nil nil_fr
  refine ⟨.ref a0, hσ0, ?_⟩
  refine tD_S I po fun j1 u1 H2 hh2 po2 _ hj1 => ?_
  have I2 := I.grow hh2
  obtain ⟨z1, p, es, rfl, hp, hes, po2⟩ := onR_po po2
  obtain ⟨a, vs, b, ws, hσ, hH, hlen, hb, hHb, hwl, _, _⟩ := I2.row (es' := es) hΓ hO hes
  rw [hσ0] at hσ
  cases hσ
  rw [hj1 z1 rfl]
  refine row_ix hO (H0 := H0) (G0 := G0) (Ls := Ls) (S := S) (Γ := Γ) hσ0 hH (by rw [hlen]; exact hp) hb ?_
  refine ⟨lst_ty hHb, ?_⟩
  refine tD_S I2 po2 fun d v H3 hh3 po3 hv _ => ?_
  obtain ⟨hc, po3⟩ := ifO_po po3
  obtain ⟨hd, hz⟩ := and_t hc
  have hz := of_decide_eq_true hz
  have I3 := I2.grow hh3
  obtain ⟨a', vs', b', ws', hσ', hH', hlen', hb', hHb', hwl', fin, _⟩ := I3.row (es' := es ++ [d]) hΓ hO hes
  rw [hσ0] at hσ'
  cases hσ'
  rw [hh3 _ _ hH] at hH'
  cases hH'
  rw [hb] at hb'
  cases hb'
  rw [hh3 _ _ hHb] at hHb'
  cases hHb'
  exact ⟨b, ws, v, rfl, rfl, hh3 _ _ hHb, by rw [hwl, sizeLine_eq]; exact hz, po3 _ _ (fin (ws ++ [v]) (lop_append (rp_ow hd (hv hd))))⟩
theorem ds_clrR (h : PE X e (tBM0 X.K "list" rClear (tOp (rIx X.K) (tVar i) (tD X.K cm (WE W) 0 m1)))) (hs : swapsWith e none pos.line X.env = pure false := by rfl) : DS X cm W nr O O (.Expr e pos) (sClrR i m1) := by
  refine PS.of (ps_expr h hs) fun D σ H ⟨H0, G0, Γ, ⟨Ls, S, I⟩, po⟩ => ?_
  obtain ⟨ds, hΓ, po⟩ := onL_po po
  obtain ⟨a0, vs0, hσ0, hH0, hlen0, _⟩ := I.top (ds' := ds) (n := n + 1) hΓ hO List.nodup_nil nil_fr
  refine ⟨.ref a0, hσ0, ?_⟩
  refine tD_S I po fun j1 u1 H2 hh2 po2 _ hj1 => ?_
  have I2 := I.grow hh2
  obtain ⟨z1, p, es, rfl, hp, hes, po2⟩ := onR_po po2
  obtain ⟨a, vs, b, ws, hσ, hH, hlen, hb, hHb, hwl, fin, _⟩ := I2.row (es' := []) hΓ hO hes
  rw [hσ0] at hσ
  cases hσ
  rw [hj1 z1 rfl]
  refine row_ix hO (H0 := H0) (G0 := G0) (Ls := Ls) (S := S) (Γ := Γ) hσ0 hH (by rw [hlen]; exact hp) hb ?_
  exact ⟨lst_ty hHb, b, ws, rfl, rfl, hHb, po2 _ _ (fin [] lop_clear)⟩
end
end
end DL

set_option Elab.async false
set_option linter.all false
set_option maxRecDepth 100000
set_option maxHeartbeats 1000000
namespace DL
open PySem PySem.Spec PyProof.Rows L2

theorem sp_len {K : PySem.W.Frag} {cm : Nat → Value} {k nr : Nat} {f : List Dt → Res Dt} {vs : List V} {H : Hp} {Q : VK} {E : XK} (h : spD K cm k nr f vs H Q E) : vs.length = k := by
  obtain ⟨ds, G, hl, _, r, _⟩ := h
  rw [r.length, hl]
section
variable {P : Program} {w : World} {K : PySem.W.Frag} {mg : Str → Option Value} {base : Heap} {cm : Nat → Value}
/-- a def's promise from its body's derivation -/
theorem okD {x qual : Str} {st : Stmt} {f : Addr} {fd : FuncData} {N ps : List Str} {k nr : Nat} {O O' : List Nat} {mb : Ms} (F : Fun K x qual st f fd) (S : FnScope N ps (defScope st)) (hO : lwB [] O = true)
    (hb : ∀ (cdv : Value) (A : Around) (outer : List PySem.Env) (s : Shared) (H : Hp) (E : XK), Room k (A.deeper (envOfC qual (defScope st) s.heap.objs.size f cdv)) →
      DSs (cxOf (L2.CX P w) P w K mg base N qual (defScope st) f cdv A outer s H E) cm (fun cls d _ H => E cls d H) nr O O' (defBody st) mb) :
    FnOk P w K mg base (L2.CX P w) (k + 1) f fd ps (spD K cm ps.length nr (runF N.length mb)) :=
  F.okX S (fun vs H Q E h => sp_len h) fun cdv A outer s H vs Q E hr h => ⟨tS K cm (fun cls d _ H => E cls d H) nr O O' mb, hb cdv A outer s H E hr, body_ok hO h⟩
end
theorem hu65 {A : Around} {k : Nat} (hr : Room k A) : A.units + 65 < cLine := by have := hr.un; omega
theorem hu64 {A : Around} {k : Nat} (hr : Room k A) : A.units + 64 < cLine := by have := hr.un; omega

/-- a scalar at any depth -/
theorem de_scal {X : Cx} {cm : Nat → Value} {E : L2.St → XK} {k n : Nat} {e : Expr} {m : Mr} (h : DE X cm E k e m) : DE X cm E n e (mDeep 0 m) :=
  de_deep (Nat.zero_le _) (de_zero h)

/-- x.append(y), y owned: it goes over -/
def sAppM (i j : Nat) : Ms := fun Γ => onL Γ i fun ds => match Γ[j]? with
  | some (some d) => ifO (decide (ds.length < 16777216)) (.nx ((Γ.set j none).set i (some (.lst (ds ++ [d])))))
  | _ => .bad
section
variable {X : Cx} {cm : Nat → Value} {W : WX} {nr : Nat} {O : List Nat} {i j n : Nat} {e : Expr} {pos : Pos}
theorem SIw.drop {K : PySem.W.Frag} {H0 G0 H : Hp} {Ls : Nat → List Addr} {S : List Addr} {Γ : Ev} {σ : L2.St} (I : SIw K H0 G0 O Ls S Γ σ H) (j : Nat) : SIw K H0 G0 O (fun k => if k = j then [] else Ls k) S (Γ.set j none) σ H := by
  refine ⟨I.h0, I.g0, I.own, fun k a ha => ?_, fun k => ?_, fun k l hkl a ha => ?_, fun k d e => ?_, by rw [List.length_set]; exact I.len⟩
  · by_cases hk : k = j
    · rw [if_pos hk] at ha; cases ha
    · rw [if_neg hk] at ha; exact I.sub k a ha
  · skip
    split
    · exact List.nodup_nil
    · exact I.nd k
  · by_cases hk : k = j
    · rw [if_pos hk] at ha; cases ha
    · rw [if_neg hk] at ha
      split
      · exact fun z => by cases z
      · exact I.dj k l hkl a ha
  · by_cases hk : k = j
    · subst hk
      by_cases hlt : k < Γ.length
      · rw [List.getElem?_set_self hlt] at e; cases e
      · rw [List.getElem?_eq_none (by rw [List.length_set]; omega)] at e; cases e
    · rw [List.getElem?_set_ne (fun z => hk z.symm)] at e
      obtain ⟨v, h1, h2⟩ := I.rep k d e
      refine ⟨v, h1, ?_⟩
      rw [if_neg hk]
      exact h2
theorem ds_appM (hO : lv O i = n + 1) (hj : lv O j = n) (hij : i ≠ j) (h : PE X e (tBM X.K "list" rAppend (tVar i) (tCons (tVar j) tNil))) (hs : swapsWith e none pos.line X.env = pure false := by rfl) : DS X cm W nr O O (.Expr e pos) (sAppM i j) := by
  refine PS.of (ps_expr h hs) fun D σ H ⟨H0, G0, Γ, ⟨Ls, S, I⟩, po⟩ => ?_
  obtain ⟨ds, hΓ, po⟩ := onL_po po
  cases hx : Γ[j]? with
  | none => rw [hx] at po; exact (show False from po).elim
  | some od =>
    cases od with
    | none => rw [hx] at po; exact (show False from po).elim
    | some d =>
      rw [hx] at po
      obtain ⟨hz, po⟩ := ifO_po po
      have hz := of_decide_eq_true hz
      obtain ⟨v, hv, ow⟩ := I.rep j d hx
      rw [hj] at ow
      have J := I.drop j
      have hΓ' : (Γ.set j none)[i]? = some (some (.lst ds)) := by rw [List.getElem?_set_ne hij.symm]; exact hΓ
      obtain ⟨a, vs, hσ, hH, hlen, fin, haS, haL⟩ := J.top (ds' := ds ++ [d]) (L := Ls j) hΓ' hO (I.nd j) fun b hb => ⟨I.sub j b hb, fun k => by
        split
        · exact fun z => by cases z
        · rename_i hk; exact I.dj j k (fun z => hk z.symm) b hb⟩
      refine ⟨.ref a, hσ, lst_ty hH, v, hv, a, vs, v, rfl, rfl, hH, by rw [hlen, sizeLine_eq]; exact hz, po _ _ (fin (vs ++ [v]) (lop_append ?_))⟩
      refine ow.move (Same.refl _) fun b hb u e => ?_
      rw [upd_ne (fun z => haL (by rw [← z]; exact hb))]; exact e

/-! ### unpacking -/
/-- a, b = x, y (scalars) -/
def sPar (i j : Nat) (m1 m2 : Mr) : Ms := fun Γ => toOut (m1 Γ) fun d1 => toOut (m2 Γ) fun d2 => ifO (isScal d1 && isScal d2) (.nx ((Γ.set i (some d1)).set j (some d2)))
theorem SI.put0 {K : PySem.W.Frag} {H0 G0 H : Hp} {Γ : Ev} {σ : L2.St} {d : Dt} {v : V} (I : SI K H0 G0 O Γ σ H) (hO : lv O i = 0) (hd : isScal d = true) (r : Rp K H d v) : SI K H0 G0 O (Γ.set i (some d)) (σ.set i (some v)) H := by
  obtain ⟨Ls, S, I⟩ := I
  exact I.store (n := 0) (L := []) (Same.refl _) List.nodup_nil (fun a ha => by cases ha) (rp_ow hd r) hO fun j _ => rfl
theorem ds_par {st : Stmt} {ta : TA} {m1 m2 : Mr} (hO : lv O i = 0) (hO' : lv O j = 0) (h : PS X st (tPar i j (tCons (tD X.K cm (WE W) 0 m1) (tCons (tD X.K cm (WE W) 0 m2) tNil)))) : DS X cm W nr O O st (sPar i j m1 m2) := by
  refine PS.of h fun D σ H ⟨H0, G0, Γ, ⟨Ls, S, I⟩, po⟩ => ?_
  unfold sPar at po
  refine tD_S I po fun d1 v1 H1 hh1 po1 hv1 _ => ?_
  refine tD_S (I.grow hh1) po1 fun d2 v2 H2 hh2 po2 hv2 _ => ?_
  obtain ⟨hc, po2⟩ := ifO_po po2
  obtain ⟨h1, h2⟩ := and_t hc
  have I2 : SI X.K H0 G0 O Γ σ H2 := ⟨Ls, S, (I.grow hh1).grow hh2⟩
  exact ⟨v1, v2, rfl, po2 _ _ ((I2.put0 hO h1 ((hv1 h1).mono hh2)).put0 hO' h2 (hv2 h2))⟩
end
end DL

set_option Elab.async false
set_option linter.all false
set_option maxRecDepth 100000
set_option maxHeartbeats 4000000
namespace DL
open PySem PySem.Spec PyProof.Rows L2

/-! ### the members of a list of ints, each once -/
def insD (x : Int) (r : List Int) : List Int := if x ∈ r then r else x :: r
def ddI : List Int → List Int
  | [] => []
  | x :: l => insD x (ddI l)
theorem ddI_mem : ∀ (l : List Int) (k : Int), k ∈ ddI l ↔ k ∈ l
  | [], k => Iff.rfl
  | x :: l, k => by
    unfold ddI insD
    have ih := ddI_mem l k
    split
    · rename_i h
      rw [List.mem_cons, ih]
      refine ⟨fun z => .inr z, fun z => z.elim (fun e => ?_) id⟩
      subst e
      exact (ddI_mem l k).mp h
    · rw [List.mem_cons, List.mem_cons, ih]
theorem ddI_nodup : ∀ l : List Int, (ddI l).Nodup
  | [] => List.nodup_nil
  | x :: l => by
    unfold ddI insD
    split
    · exact ddI_nodup l
    · rename_i h
      exact List.nodup_cons.mpr ⟨h, ddI_nodup l⟩
theorem ddI_len : ∀ l : List Int, (ddI l).length ≤ l.length
  | [] => Nat.le_refl _
  | x :: l => by
    unfold ddI insD
    have := ddI_len l
    split
    · rw [List.length_cons]; omega
    · rw [List.length_cons, List.length_cons]; omega
theorem nodup_le : ∀ {a b : List Int}, a.Nodup → (∀ k, k ∈ a → k ∈ b) → a.length ≤ b.length
  | [], b, _, _ => Nat.zero_le _
  | x :: a, b, h, s => by
    obtain ⟨h1, h2⟩ := List.nodup_cons.mp h
    have hx := s x List.mem_cons_self
    have e : (b.erase x).length = b.length - 1 := by rw [List.length_erase, if_pos hx]
    have hp : 0 < b.length := List.length_pos_of_mem hx
    have q : a.length ≤ (b.erase x).length := nodup_le h2 fun k hk => by
      have ne : k ≠ x := fun z => h1 (z ▸ hk)
      exact (List.mem_erase_of_ne ne).mpr (s k (List.mem_cons_of_mem _ hk))
    rw [List.length_cons]
    omega
theorem nodup_len {a b : List Int} (ha : a.Nodup) (hb : b.Nodup) (h : ∀ k, k ∈ a ↔ k ∈ b) : a.length = b.length :=
  Nat.le_antisymm (nodup_le ha fun k => (h k).mp) (nodup_le hb fun k => (h k).mpr)
theorem nodup_perm {a b : List Int} (ha : a.Nodup) (hb : b.Nodup) (h : ∀ k, k ∈ a ↔ k ∈ b) : a.Perm b := by
  rw [List.perm_iff_count]
  intro k
  by_cases hk : k ∈ a
  · rw [List.Nodup.count ha, List.Nodup.count hb, if_pos hk, if_pos ((h k).mp hk)]
  · rw [List.Nodup.count ha, List.Nodup.count hb, if_neg hk, if_neg fun z => hk ((h k).mpr z)]

/-! ### set(xs), xs a list of ints -/
section
variable {P : Program} {w : World} {A : Around} {E : Value → Shared → Prop} {s : Shared}
def set0 (w : World) : Obj := { cls := .type "set", dict := none, data := .set #[] 0 (.fresh 0 0 (!w.params.followText "set-order")) }
theorem set_list_ints {l : Addr} {vals : Array Value} (ns : List Int) {Q : Value → Shared → Prop} (off : A.handled = none) (hl : s.heap.IsList l vals) (ar : IntsAre vals.toList ns) (room : ns.length + 1 < scanBound)
    (fin : ∀ (g : Heap) (tk c : Nat), SetR w g s.heap.objs.size (fun j => decide (j ∈ ns)) c → (∀ b o, s.heap.get? b = some o → g.get? b = some o) → Q (.ref s.heap.objs.size) { s with heap := g, toks := tk }) :
    wpAny (model P w) A (call (.type "set") [.ref l]) Q E s := by
  have nlen : vals.size = ns.length := by have q := IntsAre.length ar; rwa [Array.length_toList] at q
  obtain ⟨c, tl, hmro⟩ := F.called_set.mro
  have hmade := F.called_set.made
  have hsub := F.called_set.sub
  refine wpAny_call (codeAny_of_tree (show wpAny _ _ (callAny (.type "set") _) _ _ _ from wpAny_pure ⟨Code.quiet_builtin _ (by decide +kernel), codeAny_builtin F.entry_type_call ?_⟩))
  rw [Around.under_plain (weight_type_call_type "set" [.ref l] []) rfl]
  have h1 := F.called_set.notType
  have h2 := F.called_set.canCreate
  have hct := F.typeCall_set_1 (.ref l)
  repeat (any_goals (first | assumption | wp_step))
  refine codeAny_mono (code_set_led1 (.ref l) (E := E) (Q₁ := fun o t => o = .ref s.heap.objs.size ∧ t = { s with heap := s.heap.push (set0 w) }) ⟨rfl, rfl⟩) fun r t hr => ?_
  rcases r with e | fl
  · exact hr
  rcases fl with obj | _ | _ | _ <;> first | exact hr.elim | skip
  obtain ⟨rfl, rfl⟩ := hr
  have at0 : (s.heap.push (set0 w)).get? s.heap.objs.size = some (set0 w) := Heap.get?_push_size _ rfl
  have hT : Shared.TypeIs { s with heap := s.heap.push (set0 w) } (.ref s.heap.objs.size) "set" := ⟨_, at0, rfl⟩
  have hli := F.called_set.init.lookup
  have hbi := F.called_set.init.bind (.ref s.heap.objs.size)
  repeat (any_goals (first | assumption | wp_step))
  refine codeAny_mono (codeAny_call_builtin (R := wants (fun r t => r = .none ∧ ∃ g tk c, t = { s with heap := g, toks := tk } ∧ SetR w g s.heap.objs.size (fun j => decide (j ∈ ns)) c ∧ (∀ b o, s.heap.get? b = some o → g.get? b = some o)) E) F.called_set.init.plain F.entry_set_init (check_set_init_1 hT ?_)) fun r2 t2 hr2 => ?_
  · obtain ⟨ol, hol, hcl, nl, hdl⟩ := hl
    obtain ⟨ocls, odict, odata, oslots⟩ := ol
    simp only at hcl hdl
    subst hcl; subst hdl
    have hol' : (s.heap.push (set0 w)).get? l = some { cls := .type "list", dict := odict, data := .seq vals nl, slots := oslots } := Heap.get?_push_of_some _ hol
    have hsls := F.sub_list_set
    have hslf := F.sub_list_frozenset
    have hne : (Value.type "list" == Value.type "dict") = false := by decide
    have hl1 : (s.heap.push (set0 w)).IsList l vals := ⟨_, hol', rfl, nl, rfl⟩
    unfold Builtin.«set.__init__» noKeywords Builtin.Frozenset.updateFrom
    generalize hPI : pyIter = PI
    wp_walk
    subst hPI
    refine wpAny_pyIter_list hl1 (wpAny_bind (wpAny_runValue ?_))
    have lLt : l < s.heap.objs.size := Heap.lt_size hol
    have off3 : A.in1.in1.in1.handled = none := by simp [off]
    have hneI : l ≠ (s.heap.push (set0 w)).objs.size := by rw [Heap.size_push]; exact Nat.ne_of_lt (Nat.lt_succ_of_lt lLt)
    have hSf : s.heap.objs.size ∉ [(s.heap.push (set0 w)).objs.size, l] := by
      rw [Heap.size_push]
      simp only [List.mem_cons, List.not_mem_nil, or_false, not_or]
      exact ⟨Nat.ne_of_lt (Nat.lt_succ_self _), Nat.ne_of_gt lLt⟩
    have hval : ∀ (i : Nat) (v : Value), vals[i]? = some v → ∃ k t, ns[i]? = some k ∧ v = .int k t := fun i v hv => by
      have hi : i < ns.length := by rw [← nlen]; exact (Array.getElem?_eq_some_iff.mp hv).1
      obtain ⟨t, e⟩ := PyProof.Rows.IntsAre.int_at ar i v (by rw [Array.getElem?_toList]; exact hv)
      refine ⟨ns[i], t, List.getElem?_eq_getElem hi, ?_⟩
      rw [e, List.getD_eq_getElem?_getD, List.getElem?_eq_getElem hi] <;> rfl
    refine set_update_ints ((Walks.list off3 _ l hneI vals).toS) s.heap.objs.size hSf ns nlen room hval (vals.size - 0) 0 _ (by omega) (Nat.zero_le _) ⟨⟨_, Heap.get?_push_size _ rfl, rfl, rfl⟩, (hl1.push _)⟩ ?_ ?_
    · exact ⟨0, Nat.le_refl 0, setR_new_at (Heap.get?_push_of_some _ at0)⟩
    · intro t c hm _ R
      obtain ⟨g, gg, d, tk, os⟩ := t
      have eg : gg = s.gens := hm.gens
      have ed : d = s.drawn := hm.drawn
      have eo : os = s.os := hm.os
      subst eg; subst ed; subst eo
      refine wpAny_pure (show wpAny _ _ (ret Value.none) _ _ _ from wpAny_pure ⟨rfl, g, tk, c, rfl, R, fun b o e => ?_⟩)
      have b0 : b < s.heap.objs.size := Heap.lt_size e
      refine hm.heap b o ?_ (Heap.get?_push_of_some _ (Heap.get?_push_of_some _ e))
      rw [Heap.size_push]
      simp only [List.mem_cons, List.not_mem_nil, or_false, not_or]
      exact ⟨Nat.ne_of_lt b0, Nat.ne_of_lt (Nat.lt_succ_of_lt b0)⟩
  · rcases r2 with e | fl
    · exact hr2
    rcases fl with r | _ | _ | _ <;> first | exact hr2.elim | skip
    obtain ⟨rfl, g, tk, c, rfl, R, k⟩ := hr2
    repeat (any_goals (first | assumption | wp_step))
    exact fin _ _ _ R k
end
end DL

set_option Elab.async false
set_option linter.all false
set_option maxRecDepth 100000
set_option maxHeartbeats 4000000
namespace DL
open PySem PySem.Spec PyProof.Rows L2

theorem SetR.card {w : World} {h : Heap} {a : Addr} {ns : List Int} {c : Nat} (R : SetR w h a (fun j => decide (j ∈ ns)) c) : c = (ddI ns).length := by
  obtain ⟨o, es, ep, t, ho, hex, hd, g, nd, hm, hb, hf, hn, hr, hl⟩ := R
  rw [← nodup_len nd (ddI_nodup ns) fun k => by rw [← hm k, ddI_mem, decide_eq_true_eq], List.length_map, Array.length_toList, hn]
section
variable {X : Cx}
def rSetLI (K : PySem.W.Frag) (w : World) : List V → Hp → VK → Prop := fun xs H Q => ∃ (a : Addr) (ns : List Int), xs = [V.ref a] ∧ H a = some (.lst (ns.map V.int)) ∧ ns.length ≤ 1000 ∧ ∀ p, H p = none → Q (.ref p) (upd H p (SetO w p (fun j => decide (j ∈ ns)) (ddI ns).length))
theorem cr_setLI (hc : X.calm = true) : CallR X (.type "set") (rSetLI X.K X.w) := by
  intro pins s σ H xs us Q I r h
  obtain ⟨a, ns, rfl, ha, hz, q⟩ := h
  rw [Vals.ref1 r]
  obtain ⟨its, rv, pl, _⟩ := I.list (show SqL X.K H a (ns.map V.int) from .inl (.inl ha))
  refine set_list_ints ns (I.ok.hd hc) pl.isList (by simpa using ints_of_vals rv) (by unfold scanBound; omega) fun g tk c R k => ?_
  rw [SetR.card R] at R
  exact ⟨.ref s.heap.objs.size, upd H s.heap.objs.size (SetO X.w s.heap.objs.size (fun j => decide (j ∈ ns)) (ddI ns).length), I.laid (t' := tk) k (Nat.le_refl _) (setO_new R), rfl, q _ (I.hok.fresh (Nat.le_refl _))⟩
def rLenSet (w : World) : List V → Hp → VK → Prop := fun xs H Q => ∃ (a : Addr) (S : Int → Bool) (n : Nat), xs = [V.ref a] ∧ H a = some (SetO w a S n) ∧ Q (.int n) H
theorem cr_lenSet : CallR X (.builtin "len") (rLenSet X.w) := by
  intro pins s σ H xs us Q I r h
  obtain ⟨a, S, n, rfl, ha, q⟩ := h
  rw [Vals.ref1 r]
  obtain ⟨o, es, ep, t, ho, hex, hd, g, nd, hm, hb, hf, hn, hr, hl⟩ := setO_get I ha
  refine call_len_set ho hex hd hf (by unfold scanBound at hb; omega) ⟨.int n, H, I.tok _, ?_, q⟩
  rw [hn]
  exact ⟨_, rfl⟩
end
section
variable {X : Cx} {cm : Nat → Value} {E : L2.St → XK} {n : Nat} {e : Expr} {m : Mr} {pos p p1 p2 : Pos}
def onIs (m : Mr) (f : List Int → Res Dt) : Mr := fun Γ => (m Γ).bind fun d => match d with
  | .lst ds => match ints? ds with
    | some ns => guardR (decide (ns.length ≤ 1000)) (f ns)
    | none => .bad
  | _ => .bad
theorem set_ok {f : List Int → Res Dt} {σ : L2.St} {H G : Hp} {Γ : Ev} {Q Q' : VK} (s : Same G H) (ev : EvR X.K G Γ σ) (po : Post X.K cm (E σ) n H G (onIs m f Γ) Q)
    (k : ∀ (ns : List Int) (p : Addr) (H1 G1 : Hp), H1 p = none → Same G1 (upd H1 p (SetO X.w p (fun j => decide (j ∈ ns)) (ddI ns).length)) → Post X.K cm (E σ) n (upd H1 p (SetO X.w p (fun j => decide (j ∈ ns)) (ddI ns).length)) G1 (f ns) Q → Q' (.ref p) (upd H1 p (SetO X.w p (fun j => decide (j ∈ ns)) (ddI ns).length))) :
    tCB (rSetLI X.K X.w) (tDs X.K cm E 0 (mCons m mNil)) σ H Q' := by
  refine ⟨G, Γ, s, ev, ?_⟩
  unfold mCons mNil
  unfold onIs at po
  cases hx : m Γ with
  | bad => rw [hx] at po; exact po.elim
  | exc c => rw [hx] at po; exact po
  | ok d =>
    rw [hx, Res.bind_ok] at po
    rw [Res.bind_ok, Res.bind_ok]
    intro vs H1 G1 L st _ _ ow
    obtain ⟨_, ow⟩ := Ows.zero_of ow
    have po1 := po.step st
    obtain ⟨v, rfl, rp⟩ := rps1 ow
    cases d with
    | lst ds =>
      cases hi : ints? ds with
      | none => simp only [hi] at po1; exact (show False from po1).elim
      | some ns =>
        simp only [hi] at po1
        rw [ints?_some hi] at rp
        obtain ⟨a, us, rfl, ga, q⟩ := rp
        rw [q.ints] at ga
        cases hz : decide (ns.length ≤ 1000) with
        | false => rw [hz] at po1; exact (show False from po1).elim
        | true =>
          rw [hz] at po1
          refine ⟨a, ns, rfl, st.s _ _ ga, of_decide_eq_true hz, fun p np => ?_⟩
          have s2 := Stp.newH st.s np (SetO X.w p (fun j => decide (j ∈ ns)) (ddI ns).length)
          exact k ns p H1 G1 np s2.s (Post.step (show Post X.K cm (E σ) n H1 G1 (f ns) Q from po1) s2)
    | _ => exact (show False from po1).elim
def cLenS (ns : List Int) : Res Dt := .ok (.int (ddI ns).length)
def cSortS (ns : List Int) : Res Dt := guardR (decide ((ddI ns).length < 64)) (.ok (.lst ((sortI (ddI ns)).map Dt.int)))
/-- len(set(xs)) -/
theorem de_lenSet (hc : X.calm = true) (hm : X.mg "len" = none) (hm2 : X.mg "set" = none) (ha : DE X cm E 0 e m) (hg : Gl X "len" := by rfl) (hg2 : Gl X "set" := by rfl)
    (he : starEach [.Call (.Name "set" p1) [e] [] p2] X.env = (false, eval (.Call (.Name "set" p1) [e] [] p2) X.env) :: starEach [] X.env := by rfl) (hpl : (backTo pos (starEach [] X.env)).any (·.1) = false := by rfl)
    (he2 : starEach [e] X.env = (false, eval e X.env) :: starEach [] X.env := by rfl) (hpl2 : (backTo p2 (starEach [] X.env)).any (·.1) = false := by rfl) :
    DE X cm E n (.Call (.Name "len" p) [.Call (.Name "set" p1) [e] [] p2] [] pos) (onIs m cLenS) :=
  PE.of (pe_callB cr_lenSet hg hm PySem.boot_len (pa_cons (pe_callTy (cr_setLI hc) hg2 hm2 PyProof.Rows.boot_set (da_cons ha da_nil he2) (by decide) (by decide) he2 hpl2) pa_nil he) (by decide) (by decide) he hpl) fun σ H Q ⟨G, Γ, s, ev, po⟩ =>
    set_ok s ev po fun ns p H1 G1 np s2 po1 => ⟨p, _, _, rfl, upd_same, po1.scal s2 rfl rfl⟩
/-- sorted(set(xs)) -/
theorem de_sortedSet (hn : n ≤ 1) (hc : X.calm = true) (hm : X.mg "sorted" = none) (hm2 : X.mg "set" = none) (ha : DE X cm E 0 e m) (hg : Gl X "sorted" := by rfl) (hg2 : Gl X "set" := by rfl)
    (he : starEach [.Call (.Name "set" p1) [e] [] p2] X.env = (false, eval (.Call (.Name "set" p1) [e] [] p2) X.env) :: starEach [] X.env := by rfl) (hpl : (backTo pos (starEach [] X.env)).any (·.1) = false := by rfl)
    (he2 : starEach [e] X.env = (false, eval e X.env) :: starEach [] X.env := by rfl) (hpl2 : (backTo p2 (starEach [] X.env)).any (·.1) = false := by rfl) :
    DE X cm E n (.Call (.Name "sorted" p) [.Call (.Name "set" p1) [e] [] p2] [] pos) (onIs m cSortS) :=
  PE.of (pe_callB (cr_sortedSet hc) hg hm boot_sorted (pa_cons (pe_callTy (cr_setLI hc) hg2 hm2 PyProof.Rows.boot_set (da_cons ha da_nil he2) (by decide) (by decide) he2 hpl2) pa_nil he) (by decide) (by decide) he hpl) fun σ H Q ⟨G, Γ, s, ev, po⟩ =>
    set_ok s ev po fun ns p H1 G1 np s2 po1 => by
      unfold cSortS at po1
      cases hz : decide ((ddI ns).length < 64) with
      | false => rw [hz] at po1; exact (show False from po1).elim
      | true =>
        rw [hz] at po1
        refine ⟨p, _, _, rfl, upd_same, of_decide_eq_true hz, fun out q pw mem len nq => ?_⟩
        have e : out = sortI (ddI ns) := sortI_eq (nodup_perm (pw.imp fun {a b} z => Int.ne_of_lt z) (ddI_nodup ns) fun k => by rw [mem k, ddI_mem, decide_eq_true_eq]) (pw.imp fun {a b} z => Int.le_of_lt z)
        rw [e]
        exact Post.list (show Post X.K cm (E σ) n _ G1 (.ok (.lst ((sortI (ddI ns)).map Dt.int))) Q from po1) hn s2 nq Rps.of_ints
end
end DL

set_option Elab.async false
set_option linter.all false
set_option maxRecDepth 100000
set_option maxHeartbeats 4000000
namespace L2
open PySem PySem.Spec PyProof.Rows
/-- a suite's ends, where the clause's name goes -/
def unD (i : Nat) (D : Ends) : Ends := { nx := fun σ H => D.nx (σ.set i none) H, rt := D.rt, bk := fun σ H => D.bk (σ.set i none) H, ct := fun σ H => D.ct (σ.set i none) H }
/-- several clauses 'except x as n', one name -/
def wAsM (K : PySem.W.Frag) (i : Nat) (W0 : WX) (D : Ends) : List (Value × (Addr → Value → Option Addr → TS)) → WX
  | [] => W0
  | (c, t) :: r => fun cls d σ H => ∃ b, PySem.W.exmOne K cls c = some b ∧ (b = true → ∀ a, H a = none → t a cls d (unD i D) (σ.set i (some (.ref a))) H) ∧ (b = false → wAsM K i W0 D r cls d σ H)
inductive HdsA (X : Cx) (n : Str) : List ExceptHandler → List (Value × (Addr → Value → Option Addr → TS)) → Prop
  | nil : HdsA X n [] []
  | cons {x : Str} {c : Value} {t : Addr → Value → Option Addr → TS} {st : Stmt} {sts : List Stmt} {p1 p2 : Pos} {hds : List ExceptHandler} {l : List (Value × (Addr → Value → Option Addr → TS))} (hc : Names X x c)
      (hsu : ∀ (a : Addr) (oe : Obj) (cls : Value) (d : Option Addr) (pn : List (Addr × Obj)), Zc cls d oe → (∃ vs, oe.data = .fields vs) → PSs (X.suite a ((a, oe) :: pn)) (st :: sts) (t a cls d)) (r : HdsA X n hds l) :
      HdsA X n (.ExceptHandler (some (.Name x p1)) (some n) (st :: sts) p2 :: hds) ((c, t) :: l)
section
variable {X : Cx} {n : Str} {i : Nat} {body : List Stmt} {h0 : ExceptHandler} {hds : List ExceptHandler} {l : List (Value × (Addr → Value → Option Addr → TS))} {pos : Pos} {tb : WX → TS} {W0 : WX}
theorem ps_try_asM (hs : X.stack = X.env :: X.outer) (hf : X.env.frame = some X.env.locals) (hN : X.N.Nodup) (hi : X.N[i]? = some n) (hln : X.env.kindOf n = some .local) (tk : Takes X W0)
    (hb : ∀ (W : WX) (pn : List (Addr × Obj)) (xe : Value → Shared → Prop), Takes (X.tr pn xe) W → PassesOwn (model X.prog X.w) X.A X.env xe → PSs (X.tr pn xe) body (tb W))
    (hh : HdsA X n (h0 :: hds) l) : PS X (.Try body (h0 :: hds) [] [] pos) (fun D σ H => tb (wAsM X.K i W0 D l) D σ H) := by
  refine ⟨fun pins s σ H D I h => ?_⟩
  have ok := I.ok
  have hfr : X.A.frames = some (X.env :: X.outer) := by rw [ok.frames, hs]
  have hloc : Loc X.env.scope n := .inl hln
  refine wpAny_Try_except (wpAny_mono ((hb (wAsM X.K i W0 D l) (X.pn ++ pins) (fun e s₁ => wpAny (model X.prog X.w) X.A (noteFrame e X.env) (fun _ s₂ => wpAny (model X.prog X.w) X.A (setFlight e none) (fun _ s₃ => wpAny (model X.prog X.w) X.A (handleBy e X.env (h0 :: hds)) (SP X pins D) X.xe s₃) X.xe s₂) X.xe s₁) (fun u s' xx => ?_) PassesOwn.looking).run [] s σ H D (I.toTry _) h) (fun f s1 hsp => ?_) (fun e s1 he => he))
  · obtain ⟨a, B, sI, pins', σ', H', cls, d, rfl, J', nb, up, sky, na, os, ag, w⟩ := xx
    have J : Inv X pins σ' H' sI := J'.ofTry ok
    have sky' : Sky B (X.env :: X.outer) a (Zc cls d) X.env.locals s'.heap := by rw [← hs]; exact sky
    show wpAny (model X.prog X.w) X.A (noteFrame (.ref a) X.env) _ _ _
    refine Sky.land Zc.steady hfr hf sky' fun h3 fl3 up3 => ?_
    have J3 : Inv X pins σ' H' { s' with heap := h3 } := J.landed nb fl3.1 (up.trans up3) os ag
    obtain ⟨oe3, vs3, he3, hz3, hd3⟩ := fl3.there
    have nfr : a ∉ frs (X.env :: X.outer) := fun hm => by
      obtain ⟨_, o', e', hnf⟩ := fl3.2.2.1.mem hm
      rw [he3] at e'; cases e'
      exact hnf _ hd3
    have nL : a ≠ X.env.locals := fun z => nfr (List.mem_filterMap.mpr ⟨X.env, List.mem_cons_self, by rw [hf, z]⟩)
    have nF : a ∉ X.fs := fun hm => by
      obtain ⟨e, he, q⟩ := List.mem_filterMap.mp hm
      exact nfr (List.mem_filterMap.mpr ⟨e, List.mem_cons_of_mem _ he, q⟩)
    have S3 := J3.suite he3 hd3 na nL nF
    have go : ∀ {hds' : List ExceptHandler} {l' : List (Value × (Addr → Value → Option Addr → TS))}, HdsA X n hds' l' → wAsM X.K i W0 D l' cls d σ' H' → wpAny (model X.prog X.w) X.A (handleBy (.ref a) X.env hds') (SP X pins D) X.xe { s' with heap := h3 } := by
      intro hds' l' hk
      induction hk with
      | nil =>
        intro w
        obtain ⟨k1, k2, k3, oe, vs, T, oT, ts', he, hz, hd, h1, hr⟩ := id fl3
        refine wpAny_handleBy_nil ?_
        unfold PySem.passOn
        refine wpAny_bind (wpAny_field he hd h1 ?_)
        rw [if_neg (show ¬ ((Value.ref T == Value.none) = true) from by simp)]
        have fin : wpAny (model X.prog X.w) X.A (setFlight (.ref a) X.env.frame) (fun _ s4 => wpAny (model X.prog X.w) X.A (throw (.ref a) : Sem Flow) (SP X pins D) X.xe s4) X.xe { s' with heap := h3 } := by
          rw [hf]
          exact HandSPX.setFlight_upZ fl3 fun h4 hh4 up4 => wpAny_throw (tk _ _ ⟨a, B, sI, pins, σ', H', cls, d, rfl, J, nb, (up.trans up3).trans up4, .inr (.inr (by rw [hs]; exact hh4)), na, os, ag, w⟩)
        first
          | exact wpAny_bind (wpAny_pure (wpAny_bind fin))
          | exact wpAny_bind fin
      | @cons x c t st sts p1 p2 hds2 l2 hc hsu r ih =>
        intro w
        obtain ⟨b, hb1, hyes, hno⟩ := w
        refine wpAny_handleBy_cons (codeAny_handlers_test ?_) (by intro q; cases q)
        have LT : PySem.W.Looks (model X.prog X.w) h3 (typeOf (.ref a)) cls := fun A Q E s k q => wpAny_typeOf_ref (k _ _ he3) (by rw [hz3.1]; exact q)
        have LM := PySem.W.exm_one (M := model X.prog X.w) (J3.kIn) LT hb1
        have test : ∀ {Q : Value → Shared → Prop} {E : Value → Shared → Prop}, Q c { s' with heap := h3 } → wpAny (model X.prog X.w) (X.A.mark (some (.ref a))) (eval (.Name x p1) X.env) Q E { s' with heap := h3 } := fun {Q E} q => by
          obtain ⟨hg, hdbg, hm | ⟨hm, hv, hnn⟩⟩ := hc
          · exact ld_glob (X := X.suite a ((a, oe3) :: (X.pn ++ pins))) S3 hg hm q hdbg
          · exact ld_blt (X := X.suite a ((a, oe3) :: (X.pn ++ pins))) S3 hg hm hv q hnn hdbg
        refine test (LM.here ?_)
        cases b with
        | true =>
          refine codeAny_handlers_suite_as (HandSPX.lands_againZ fl3 fun h4 fl4 up4 => ?_)
          have J4 : Inv X pins σ' H' { s' with heap := h4 } := J.landed nb fl4.1 ((up.trans up3).trans up4) os ag
          obtain ⟨oe4, vs4, he4, hz4, hd4⟩ := fl4.there
          have S4 := J4.suite he4 hd4 na nL nF
          refine store_ok (X := X.suite a ((a, oe4) :: (X.pn ++ pins))) (v := .ref a) S4 hN hi hloc rfl (fun s5 S5 => wpAny_mono ((hsu a oe4 cls d (X.pn ++ pins) hz4 ⟨_, hd4⟩).run [] s5 _ H' _ S5 (hyes rfl a na)) (fun f s6 hsp => ?_) (fun _ _ z => False.elim z)) (.inr hln)
          have off : ∀ {σ6 : St} {H6 : Hp} {Q : Shared → Prop}, Inv (X.suite a ((a, oe4) :: (X.pn ++ pins))) [] σ6 H6 s6 → (∀ s7, Inv X pins (σ6.set i none) H6 s7 → Q s7) → wpAny (model X.prog X.w) X.A (do bindName X.env n .none; unbindBehindTheSuite X.env n p2) (fun _ s7 => Q s7) X.xe s6 := fun {σ6 H6 Q} S6 hq => gone_ok (S6.unsuite ok) hN hi hln hq
          cases f with
          | next =>
            obtain ⟨σ6, H6, S6, q6⟩ := hsp
            exact off S6 fun s7 J7 => ⟨_, _, J7, q6⟩
          | brk =>
            obtain ⟨σ6, H6, S6, q6⟩ := hsp
            exact off S6 fun s7 J7 => ⟨_, _, J7, q6⟩
          | cont =>
            obtain ⟨σ6, H6, S6, q6⟩ := hsp
            exact off S6 fun s7 J7 => ⟨_, _, J7, q6⟩
          | ret u =>
            obtain ⟨v6, σ6, H6, S6, r6, q6⟩ := hsp
            exact off S6 fun s7 J7 => ⟨_, _, _, J7, r6, q6⟩
        | false => exact ih (hno rfl)
    exact go hh w
  · cases f with
    | next =>
      obtain ⟨σ', H', J', q⟩ := hsp
      exact wpAny_execs_nil ⟨σ', H', J'.ofTry ok, q⟩
    | brk =>
      obtain ⟨σ', H', J', q⟩ := hsp
      exact ⟨σ', H', J'.ofTry ok, q⟩
    | cont =>
      obtain ⟨σ', H', J', q⟩ := hsp
      exact ⟨σ', H', J'.ofTry ok, q⟩
    | ret u =>
      obtain ⟨v, σ', H', J', r, q⟩ := hsp
      exact ⟨v, σ', H', J'.ofTry ok, r, q⟩
end
end L2

set_option Elab.async false
set_option linter.all false
set_option maxRecDepth 100000
set_option maxHeartbeats 4000000
namespace DL
open PySem PySem.Spec PyProof.Rows L2

/-! ### a state told from the current heap -/
section
variable {K : PySem.W.Frag} {cm : Nat → Value} {W W' : WX} {nr : Nat} {H0 G0 H H' : Hp} {O O' : List Nat} {Ls : Nat → List Addr} {S : List Addr} {Γ : Ev} {σ : L2.St} {D : Ends}
/-- the current heap without what is owned -/
def Hb (S : List Addr) (H : Hp) : Hp := fun a => if a ∈ S then none else H a
theorem Hb.inv {a : Addr} {o : HO} (e : Hb S H a = some o) : a ∉ S ∧ H a = some o := by
  unfold Hb at e
  split at e
  · cases e
  · exact ⟨by assumption, e⟩
theorem Hb.of {a : Addr} {o : HO} (h : a ∉ S) (e : H a = some o) : Hb S H a = some o := by unfold Hb; rw [if_neg h]; exact e
theorem Vw.hb (I : SIw K H0 G0 O Ls S Γ σ H) : Same (Vw H0 G0 S H) (Hb S H) := fun a o e => let ⟨h1, _, h3⟩ := Vw.inv e; Hb.of h1 h3
theorem SIw.here (I : SIw K H0 G0 O Ls S Γ σ H) : SIw K (Hb S H) (Vw H0 G0 S H) O Ls S Γ σ H := by
  refine ⟨fun a o e => (Hb.inv e).2, Vw.same, fun a ha => ⟨?_, ?_, (I.own a ha).2.2⟩, I.sub, I.nd, I.dj, fun i d e => ?_, I.len⟩
  · unfold Hb; rw [if_pos ha]
  · cases q : Vw H0 G0 S H a with
    | none => rfl
    | some u => exact absurd ha (Vw.inv q).1
  · obtain ⟨v, h1, h2⟩ := I.rep i d e
    refine ⟨v, h1, h2.mono (Same.refl _) fun a o q => Vw.of (Vw.inv q).1 (.inl ⟨o, q⟩) (Vw.inv q).2.2⟩
theorem h0_hb (I : SIw K H0 G0 O Ls S Γ σ H) : Same H0 (Hb S H) := fun a o e => Hb.of (fun q => by have := (I.own a q).1; rw [e] at this; cases this) (I.h0 _ _ e)
theorem new_hb (I : SIw K H0 G0 O Ls S Γ σ H) {a : Addr} (h : Hb S H a = none) : H0 a = none := none_back (h0_hb I) h
theorem SI.back (I : SIw K H0 G0 O Ls S Γ σ H) {Γ' : Ev} {σ' : L2.St} (J : SI K (Hb S H) (Vw H0 G0 S H) O' Γ' σ' H') : SI K H0 G0 O' Γ' σ' H' := by
  obtain ⟨Ls', S', J⟩ := J
  refine ⟨Ls', S', (h0_hb I).trans J.h0, I.g0v.trans J.g0, fun a ha => ⟨new_hb I (J.own a ha).1, none_back I.g0v (J.own a ha).2.1, (J.own a ha).2.2⟩, J.sub, J.nd, J.dj, fun i d e => ?_, J.len⟩
  obtain ⟨v, h1, h2⟩ := J.rep i d e
  refine ⟨v, h1, h2.mono (Same.refl _) fun a o q => ?_⟩
  obtain ⟨q1, q2, q3⟩ := Vw.inv q
  refine Vw.of q1 ?_ q3
  rcases q2 with ⟨u, q2⟩ | q2
  · exact (Vw.inv q2).2.1
  · exact .inr (new_hb I q2)
theorem RetOk.back (I : SIw K H0 G0 O Ls S Γ σ H) {d : Dt} {v : V} (r : RetOk K nr (Hb S H) (Vw H0 G0 S H) d v H') : RetOk K nr H0 G0 d v H' := by
  obtain ⟨G', L, st, nd, fr, ow⟩ := r
  refine ⟨G', L, ⟨(h0_hb I).trans st.h, I.g0v.trans st.g, st.s, fun a o q => ?_⟩, nd, fun a ha => ⟨new_hb I (fr a ha).1, (fr a ha).2⟩, ow⟩
  rcases st.new a o q with ⟨u, w⟩ | w
  · exact (Vw.inv w).2.1
  · exact .inr (new_hb I w)
end

/-! ### what a clause answers -/
/-- a value told in a clause, where the name i holds the exception a -/
def hD (K : PySem.W.Frag) (cm : Nat → Value) (n i : Nat) (a : Addr) (d : Dt) : TE := fun σ H Q => ∃ G, Same G H ∧ σ[i]? = some (some (.ref a)) ∧ Post K cm E0 n H G (.ok d) Q
section
variable {X : Cx} {cm : Nat → Value} {a C D : Addr} {i n k : Nat} {oe : Obj} {pn : List (Addr × Obj)} {b1 b2 b : Bool} {x e : Str} {ex ey : Expr} {pos p p2 p3 : Pos}
theorem hd_isi (hC : ExcC X.K D) (hz : Zc (.ref D) none oe) (hf : ∃ vs, oe.data = .fields vs) (hm : X.mg "isinstance" = none) (hv : PE (X.suite a ((a, oe) :: pn)) (.Name e p2) (tVar i)) (hmc : X.mg x = some (.ref C)) (hk : PySem.W.kitOne X.K (.ref D) (.ref C) = some b)
    (hg : Gl X "isinstance" := by rfl) (hgx : Gl X x := by rfl) (hd : (x == ("__debug__" : Str)) = false := by decide)
    (he : starEach [.Name e p2, .Name x p3] X.env = (false, eval (.Name e p2) X.env) :: starEach [.Name x p3] X.env := by rfl) (he2 : starEach [.Name x p3] X.env = (false, eval (.Name x p3) X.env) :: starEach [] X.env := by rfl) (hpl : (backTo pos (starEach [.Name x p3] X.env)).any (·.1) = false := by rfl) :
    PE (X.suite a ((a, oe) :: pn)) (.Call (.Name "isinstance" p) [.Name e p2, .Name x p3] [] pos) (hD X.K cm n i a (.bl b)) :=
  PE.of (pe_callB (X := X.suite a ((a, oe) :: pn)) (call_isE hC hz hf) hg hm boot_isinstance (pa_cons hv (pa_cons (pe_glob (v := .ref C) hgx hmc rfl hd) pa_nil he2) he) (by decide) (by decide) he hpl) fun σ H Q ⟨G, s, hs, po⟩ =>
    ⟨.ref a, hs, .ref C, .ref C, b, rfl, fun u r => (show u = Value.ref C from r), hk, po.scal s rfl rfl⟩
theorem hd_isiT {T : String} (hC : ExcC X.K D) (hz : Zc (.ref D) none oe) (hf : ∃ vs, oe.data = .fields vs) (hm : X.mg "isinstance" = none) (hv : PE (X.suite a ((a, oe) :: pn)) (.Name e p2) (tVar i)) (hmc : X.mg x = none) (hb : bootBuiltins x = some (.type T)) (hk : PySem.W.kitOne X.K (.ref D) (.type T) = some b)
    (hg : Gl X "isinstance" := by rfl) (hgx : Gl X x := by rfl) (hn : x ≠ "__name__" := by decide) (hd : (x == ("__debug__" : Str)) = false := by decide)
    (he : starEach [.Name e p2, .Name x p3] X.env = (false, eval (.Name e p2) X.env) :: starEach [.Name x p3] X.env := by rfl) (he2 : starEach [.Name x p3] X.env = (false, eval (.Name x p3) X.env) :: starEach [] X.env := by rfl) (hpl : (backTo pos (starEach [.Name x p3] X.env)).any (·.1) = false := by rfl) :
    PE (X.suite a ((a, oe) :: pn)) (.Call (.Name "isinstance" p) [.Name e p2, .Name x p3] [] pos) (hD X.K cm n i a (.bl b)) :=
  PE.of (pe_callB (X := X.suite a ((a, oe) :: pn)) (call_isE hC hz hf) hg hm boot_isinstance (pa_cons hv (pa_cons (pe_bltn (v := .ty T) hgx hmc hb rfl hn hd) pa_nil he2) he) (by decide) (by decide) he hpl) fun σ H Q ⟨G, s, hs, po⟩ =>
    ⟨.ref a, hs, .ty T, .type T, b, rfl, fun u r => (show u = Value.type T from r), hk, po.scal s rfl rfl⟩
theorem hd_and {X : Cx} (h1 : PE X ex (hD X.K cm 0 i a (.bl true))) (h2 : PE X ey (hD X.K cm n i a (.bl b2))) : PE X (.BoolOp .And [ex, ey] pos) (hD X.K cm n i a (.bl b2)) :=
  PE.of (pe_and h1 (pe_one h2)) fun σ H Q ⟨G, s, hs, po⟩ => ⟨G, s, hs, fun v H1 G1 L st nd fr ow => by
    rw [Ow.zero] at ow
    refine ⟨true, ow.2, ?_⟩
    exact ⟨G1, st.s, hs, po.step st⟩⟩
/-- .. returned by itself, in a list, behind a number in a tuple -/
theorem hd_lst {X : Cx} (h : PE X ex (hD X.K cm 0 i a (.bl b))) (he : starEach [ex] X.env = (false, eval ex X.env) :: starEach [] X.env := by rfl) : PE X (.List [ex] pos) (hD X.K cm (n + 1) i a (.lst [.bl b])) :=
  PE.of (pe_lst (pa_cons h pa_nil he)) fun σ H Q ⟨G, s, hs, po⟩ => ⟨G, s, hs, fun v H1 G1 L st nd fr ow => by
    rw [Ow.zero] at ow
    refine ⟨?_, fun p np => po.lay (L := []) st List.nodup_nil (fun a ha => by cases ha) ⟨v, [], [], [], rfl, rfl, rp_ow rfl ow.2, rfl, rfl⟩ np⟩
    rw [sizeLine_eq]; exact Nat.le_of_ble_eq_true rfl⟩
theorem hd_tup {X : Cx} {z : Int} {j x1 : Nat} (h : PE X ex (hD X.K cm 0 i a (.bl b))) (he : starEach [.Constant (.int z) j p, ex] X.env = (false, eval (.Constant (.int z) j p) X.env) :: starEach [ex] X.env := by rfl) (he2 : starEach [ex] X.env = (false, eval ex X.env) :: starEach [] X.env := by rfl) : PE X (.Tuple [.Constant (.int z) j p, ex] x1 pos) (hD X.K cm (n + 1) i a (.tup [.int z, .bl b])) :=
  PE.of (pe_tup (pa_cons pe_int (pa_cons h pa_nil he2) he)) fun σ H Q ⟨G, s, hs, po⟩ => ⟨G, s, hs, fun v H1 G1 L st nd fr ow => by
    rw [Ow.zero] at ow
    refine ⟨?_, fun p np => po.layT (L := []) st List.nodup_nil (fun a ha => by cases ha) ⟨.int z, [v], [], [], rfl, rfl, rp_ow (G := G1) rfl rfl, v, [], [], [], rfl, rfl, rp_ow rfl ow.2, rfl, rfl⟩ np⟩
    rw [sizeLine_eq]; exact Nat.le_of_ble_eq_true rfl⟩

/-- a clause's suite: it catches the classes cs and returns d -/
def hS (K : PySem.W.Frag) (cm : Nat → Value) (nr i : Nat) (cs : List Nat) (d : Dt) : Addr → Value → Option Addr → TS := fun a cls od D σ H => ∃ (c : Nat) (σ0 : L2.St), c ∈ cs ∧ cls = cm c ∧ od = none ∧ σ = σ0.set i (some (.ref a)) ∧ ∃ H0 G0, Same H0 H ∧ Same G0 H0 ∧ ∀ v H', RetOk K nr H0 G0 d v H' → D.rt v H'
theorem hs_ret {n : Str} {nr : Nat} {cs : List Nat} {d : Dt} (hi : X.N[i]? = some n) {er : Expr} (hC : ∀ c ∈ cs, ∃ D, cm c = .ref D ∧ ∀ a oe pn, Zc (.ref D) none oe → (∃ vs, oe.data = .fields vs) → PE (X.suite a ((a, oe) :: pn)) er (hD X.K cm nr i a d)) :
    ∀ (a : Addr) (oe : Obj) (cls : Value) (od : Option Addr) (pn : List (Addr × Obj)), Zc cls od oe → (∃ vs, oe.data = .fields vs) → PSs (X.suite a ((a, oe) :: pn)) [.Return (some er) pos] (hS X.K cm nr i cs d a cls od) := by
  intro a oe cls od pn hz hf
  refine ⟨fun pins s σ H D I ⟨c, σ0, hc, e1, e2, e3, H0, G0, s0, g0, q⟩ => ?_⟩
  subst e2
  obtain ⟨Dc, eD, h⟩ := hC c hc
  rw [e1, eD] at hz
  have hlt : i < σ0.length := by
    have h1 := I.len
    rw [e3, List.length_set] at h1
    have h2 := (List.getElem?_eq_some_iff.mp hi).1
    have h3 : (X.suite a ((a, oe) :: pn)).N.length = X.N.length := rfl
    omega
  refine (pss_one (ps_ret (h a oe pn hz hf))).run pins s σ H D I ⟨G0, g0.trans s0, by rw [e3, List.getElem?_set_self hlt], fun v H' G' L st nd fr ow => q v H' ⟨G', L, ⟨s0.trans st.h, st.g, st.s, fun p o z => ?_⟩, nd, fun p hp => ⟨none_back s0 (fr p hp).1, (fr p hp).2⟩, ow⟩⟩
  rcases st.new p o z with w | w
  · exact .inl w
  · exact .inr (none_back s0 w)
end
/-! ### try: .. except X as e: return .. -/
abbrev Clauses := List (Value × List Nat × Dt)
def hvOf : List (List Nat × Dt) → Nat → Option Dt
  | [], _ => none
  | (cs, d) :: r, c => if decide (c ∈ cs) = true then some d else hvOf r c
def sTry (dom : List Nat) (cl : List (List Nat × Dt)) (mb : Ms) : Ms := fun Γ => match mb Γ with
  | .exc c => if decide (c ∈ dom) = true then (match hvOf cl c with
    | some d => .ret d
    | none => .bad) else .bad
  | r => r
section
variable {X : Cx} {cm : Nat → Value} {W : WX} {nr i : Nat} {O O' : List Nat} {n : Str} {body : List Stmt} {h0 : ExceptHandler} {hds : List ExceptHandler} {pos : Pos} {mb : Ms}
theorem catches {K : PySem.W.Frag} {W0 : WX} {D : Ends} {H0 G0 : Hp} {c : Nat} {d : Dt} {dom : List Nat} (hdom : c ∈ dom) (g0 : Same G0 H0) (po : ∀ v H', RetOk K nr H0 G0 d v H' → D.rt v H') : ∀ (cl : Clauses), (∀ q ∈ cl, ∀ c ∈ dom, PySem.W.exmOne K (cm c) q.1 = some (decide (c ∈ q.2.1))) →
    hvOf (cl.map fun q => (q.2.1, q.2.2)) c = some d → ∀ σ' H', Same H0 H' → wAsM K i W0 D (cl.map fun q => (q.1, hS K cm nr i q.2.1 q.2.2)) (cm c) none σ' H'
  | [], _, h, _, _, _ => by cases h
  | (cv, cs, d') :: cl, hx, h, σ', H', s => by
    refine ⟨decide (c ∈ cs), hx _ List.mem_cons_self c hdom, fun hb a ha => ?_, fun hb => ?_⟩
    · have e : d' = d := by
        have h' : (if decide (c ∈ cs) = true then some d' else hvOf (cl.map fun q => (q.2.1, q.2.2)) c) = some d := h
        rw [if_pos hb] at h'; cases h'; rfl
      subst e
      exact ⟨c, σ', of_decide_eq_true hb, rfl, rfl, rfl, H0, G0, s, g0, po⟩
    · have h' : (if decide (c ∈ cs) = true then some d' else hvOf (cl.map fun q => (q.2.1, q.2.2)) c) = some d := h
      rw [if_neg (by rw [hb]; exact Bool.false_ne_true)] at h'
      exact catches hdom g0 po cl (fun q hq => hx q (List.mem_cons_of_mem _ hq)) h' σ' H' s
theorem ds_try {dom : List Nat} (cl : Clauses) (hs : X.stack = X.env :: X.outer) (hf : X.env.frame = some X.env.locals) (hN : X.N.Nodup) (hi : X.N[i]? = some n) (hln : X.env.kindOf n = some .local) (tk : Takes X W)
    (hb : ∀ (W' : WX) (pn : List (Addr × Obj)) (xe : Value → Shared → Prop), Takes (X.tr pn xe) W' → PassesOwn (model X.prog X.w) X.A X.env xe → DSs (X.tr pn xe) cm W' nr O O' body mb)
    (hh : HdsA X n (h0 :: hds) (cl.map fun q => (q.1, hS X.K cm nr i q.2.1 q.2.2))) (hx : ∀ q ∈ cl, ∀ c ∈ dom, PySem.W.exmOne X.K (cm c) q.1 = some (decide (c ∈ q.2.1))) : DS X cm W nr O O' (.Try body (h0 :: hds) [] [] pos) (sTry dom (cl.map fun q => (q.2.1, q.2.2)) mb) := by
  refine PS.of (ps_try_asM (tb := fun W' => tS X.K cm W' nr O O' mb) hs hf hN hi hln tk hb hh) fun D σ H ⟨H0, G0, Γ, ⟨Ls, S, I⟩, po⟩ => ?_
  refine ⟨Hb S H, Vw H0 G0 S H, Γ, ⟨Ls, S, I.here⟩, ?_⟩
  unfold sTry at po
  cases hq : mb Γ with
  | nx Γ' => rw [hq] at po; exact fun σ' H' J => po σ' H' (SI.back I J)
  | ret d => rw [hq] at po; exact fun v H' r => po v H' (RetOk.back I r)
  | bad => rw [hq] at po; exact po
  | exc c =>
    rw [hq] at po
    dsimp only at po
    by_cases hd : decide (c ∈ dom) = true
    · rw [if_pos hd] at po
      cases hv : hvOf (cl.map fun q => (q.2.1, q.2.2)) c with
      | none => rw [hv] at po; exact (show False from po).elim
      | some d =>
        rw [hv] at po
        exact catches (of_decide_eq_true hd) (Vw.hb I) (fun v H' r => po v H' (RetOk.back I r)) cl hx hv
    · rw [if_neg hd] at po; exact (show False from po).elim
end
end DL

set_option Elab.async false
set_option linter.all false
set_option maxRecDepth 100000
set_option maxHeartbeats 4000000
namespace DL
open PySem PySem.Spec PyProof.Rows L2

/-! ### a tuple's value taken apart; a tuple of owned names returned -/
def sUnp (O slots : List Nat) (m : Mr) : Ms := fun Γ => toOut (m (mask O Γ)) fun d => match d with
  | .tup ds => if ds.length = slots.length then .nx (bindAll Γ slots ds) else .bad
  | _ => .bad
section
variable {X : Cx} {cm : Nat → Value} {W : WX} {nr n i j l : Nat} {O O' : List Nat} {e e1 e2 e3 tg : Expr} {m m1 m2 m3 : Mr} {pos p : Pos}
theorem unp_ok {K : PySem.W.Frag} {slots : List Nat} {g : TG} {σ : L2.St} {H : Hp} {D : Ends} (hsl : slots.all (fun i => lv O i == 0) = true)
    (hg : ∀ (a : Addr) (vs : List V) (H : Hp) (Q : L2.St → Hp → Prop), H a = some (.tup vs) → vs.length = slots.length → Q (setAll σ slots vs) H → g (.ref a) σ H Q) (h : tS K cm W nr O O (sUnp O slots m) D σ H) : tAsg (tD K cm (WE W) 0 m) g D σ H := by
  obtain ⟨H0, G0, Γ, ⟨Ls, S, I⟩, po⟩ := h
  have hsl' : ∀ j ∈ slots, lv O j = 0 := fun j hj => by simpa using List.all_eq_true.mp hsl j hj
  unfold sUnp at po
  refine tD_P I (fun c e H' s => ?_) (fun e => ?_) fun d v H' G' L e hh st nd fr ow => ?_
  · rw [e] at po; exact po σ H' s
  · rw [e] at po; exact po
  · rw [e, toOut_ok] at po
    rw [Ow.zero] at ow
    cases d with
    | tup ds =>
      dsimp only at po
      by_cases hz : ds.length = slots.length
      · rw [if_pos hz] at po
        obtain ⟨a, us, rfl, ga, q⟩ := ow.2
        refine hg a us H' _ (st.s _ _ ga) (by rw [q.length, hz]) (po _ _ ?_)
        have I1 : SI K H0 G' O Γ σ H' := ⟨Ls, S, I.wider st⟩
        refine SI.narrow (SI.bind hsl' q (Same.refl _) I1) (I.g0v.trans st.g) fun b o z => ?_
        rcases st.new b o z with ⟨u, w⟩ | w
        · exact (Vw.inv w).2.1
        · exact .inr (none_back I.h0 w)
      · rw [if_neg hz] at po; exact (show False from po).elim
    | _ => exact (show False from po).elim
theorem ds_unp3 (he : DE X cm (WE W) 0 e m) (hg : PG X tg (gTup X.K 3 (gCons (gName i) (gCons (gName j) (gCons (gName l) gNil))))) (hsl : [i, j, l].all (fun i => lv O i == 0) = true := by rfl)
    (hs : swapsWithSole [tg] e pos.line X.env = pure false := by rfl) (hw : swappedStores [tg] e X.env = pure none := by rfl) (h1 : (assignEach [tg] X.env).map (·.2) = [assign tg X.env] := by rfl) : DS X cm W nr O O (.Assign [tg] e pos) (sUnp O [i, j, l] m) :=
  PS.of (ps_asg he hg hs hw h1) fun D σ H h => unp_ok hsl (fun a vs H Q ha hl q => by
    match vs, hl, ha, q with
    | [x, y, z], _, ha, q => exact ⟨a, _, rfl, .inl (.inl ha), rfl, x, _, rfl, y, _, rfl, z, _, rfl, rfl, q⟩) h
theorem ds_unp2 (he : DE X cm (WE W) 0 e m) (hg : PG X tg (gTup X.K 2 (gCons (gName i) (gCons (gName j) gNil)))) (hsl : [i, j].all (fun i => lv O i == 0) = true := by rfl)
    (hs : swapsWithSole [tg] e pos.line X.env = pure false := by rfl) (hw : swappedStores [tg] e X.env = pure none := by rfl) (h1 : (assignEach [tg] X.env).map (·.2) = [assign tg X.env] := by rfl) : DS X cm W nr O O (.Assign [tg] e pos) (sUnp O [i, j] m) :=
  PS.of (ps_asg he hg hs hw h1) fun D σ H h => unp_ok hsl (fun a vs H Q ha hl q => by
    match vs, hl, ha, q with
    | [x, y], _, ha, q => exact ⟨a, _, rfl, .inl (.inl ha), rfl, x, _, rfl, y, _, rfl, rfl, q⟩) h
def sMoveT (i j l : Nat) : Ms := fun Γ => match Γ[i]?, Γ[j]?, Γ[l]? with
  | some (some a), some (some b), some (some c) => .ret (.tup [a, b, c])
  | _, _, _ => .bad
theorem sMoveT_ok {K : PySem.W.Frag} {Γ : Ev} {H0 G0 : Hp} {D : Ends} (po : SPost K cm W nr H0 G0 O' (sMoveT i j l Γ) D) : ∃ a b c, Γ[i]? = some (some a) ∧ Γ[j]? = some (some b) ∧ Γ[l]? = some (some c) ∧ SPost K cm W nr H0 G0 O' (.ret (.tup [a, b, c])) D := by
  unfold sMoveT at po
  split at po
  · rename_i a b c h1 h2 h3
    exact ⟨a, b, c, h1, h2, h3, po⟩
  · exact po.elim
theorem ds_moveT {x1 : Nat} (hi : lv O i = n) (hj : lv O j = n) (hl : lv O l = n) (hij : i ≠ j) (hil : i ≠ l) (hjl : j ≠ l) (h1 : PE X e1 (tVar i)) (h2 : PE X e2 (tVar j)) (h3 : PE X e3 (tVar l))
    (s1 : starEach [e1, e2, e3] X.env = (false, eval e1 X.env) :: starEach [e2, e3] X.env := by rfl) (s2 : starEach [e2, e3] X.env = (false, eval e2 X.env) :: starEach [e3] X.env := by rfl) (s3 : starEach [e3] X.env = (false, eval e3 X.env) :: starEach [] X.env := by rfl) :
    DS X cm W (n + 1) O O' (.Return (some (.Tuple [e1, e2, e3] x1 p)) pos) (sMoveT i j l) := by
  refine PS.of (ps_ret (pe_tup (pa_cons h1 (pa_cons h2 (pa_cons h3 pa_nil s3) s2) s1))) fun D σ H ⟨H0, G0, Γ, ⟨Ls, S, I⟩, po⟩ => ?_
  obtain ⟨a, b, c, q1, q2, q3, po⟩ := sMoveT_ok po
  obtain ⟨v1, r1, o1⟩ := I.rep i a q1
  obtain ⟨v2, r2, o2⟩ := I.rep j b q2
  obtain ⟨v3, r3, o3⟩ := I.rep l c q3
  rw [hi] at o1; rw [hj] at o2; rw [hl] at o3
  refine ⟨v1, r1, v2, r2, v3, r3, ?_, fun q nq => ?_⟩
  · rw [sizeLine_eq]; exact Nat.le_of_ble_eq_true rfl
  have po' : ∀ v H', RetOk X.K (n + 1) H0 G0 (.tup [a, b, c]) v H' → D.rt v H' := po
  have hLS : ∀ b ∈ Ls i ++ (Ls j ++ Ls l), b ∈ S := fun b hb => by
    rcases List.mem_append.mp hb with hb | hb
    · exact I.sub i b hb
    · rcases List.mem_append.mp hb with hb | hb
      · exact I.sub j b hb
      · exact I.sub l b hb
  have nd : (Ls i ++ (Ls j ++ Ls l)).Nodup := by
    rw [List.nodup_append]
    refine ⟨I.nd i, ?_, fun x hx y hy z => ?_⟩
    · rw [List.nodup_append]
      exact ⟨I.nd j, I.nd l, fun x hx y hy z => I.dj j l hjl x hx (z ▸ hy)⟩
    · subst z
      rcases List.mem_append.mp hy with hy | hy
      · exact I.dj i j hij x hx hy
      · exact I.dj i l hil x hx hy
  have pS : q ∉ S := fun z => by obtain ⟨u, w⟩ := (I.own q z).2.2; rw [nq] at w; cases w
  have st : Stp H0 G0 H (Vw H0 G0 S H) := ⟨I.h0, I.g0v, Vw.same, fun a o q => (Vw.inv q).2.1⟩
  have st2 := st.trans (Stp.newH Vw.same nq (.tup [v1, v2, v3]))
  refine po' _ _ ⟨Vw H0 G0 S H, q :: (Ls i ++ (Ls j ++ Ls l)), st2, List.nodup_cons.mpr ⟨fun z => pS (hLS q z), nd⟩, fun b hb => ?_, q, [v1, v2, v3], _, rfl, upd_same, rfl, ?_⟩
  · rcases List.mem_cons.mp hb with rfl | hb
    · exact ⟨none_back I.h0 nq, none_back Vw.same nq⟩
    · refine ⟨(I.own b (hLS b hb)).1, ?_⟩
      cases z : Vw H0 G0 S H b with
      | none => rfl
      | some o => exact absurd (hLS b hb) (Vw.inv z).1
  · have up : Same H (upd H q (.tup [v1, v2, v3])) := fun b u e => by rw [upd_ne (ne_of_none e nq)]; exact e
    exact ⟨v1, [v2, v3], Ls i, Ls j ++ Ls l, rfl, rfl, o1.mono up (Same.refl _), v2, [v3], Ls j, Ls l, rfl, rfl, o2.mono up (Same.refl _), v3, [], Ls l, [], rfl, by simp, o3.mono up (Same.refl _), rfl, rfl⟩
/-- a, b, c = x, y, z (scalars) -/
def sPar3 (i j l : Nat) (m1 m2 m3 : Mr) : Ms := fun Γ => toOut (m1 Γ) fun d1 => toOut (m2 Γ) fun d2 => toOut (m3 Γ) fun d3 => ifO (isScal d1 && isScal d2 && isScal d3) (.nx (((Γ.set i (some d1)).set j (some d2)).set l (some d3)))
theorem ds_par3 {st : Stmt} (hO : lv O i = 0) (hO' : lv O j = 0) (hO2 : lv O l = 0) (h : PS X st (tPar3 i j l (tCons (tD X.K cm (WE W) 0 m1) (tCons (tD X.K cm (WE W) 0 m2) (tCons (tD X.K cm (WE W) 0 m3) tNil))))) : DS X cm W nr O O st (sPar3 i j l m1 m2 m3) := by
  refine PS.of h fun D σ H ⟨H0, G0, Γ, ⟨Ls, S, I⟩, po⟩ => ?_
  unfold sPar3 at po
  refine tD_S I po fun d1 v1 H1 hh1 po1 hv1 _ => ?_
  refine tD_S (I.grow hh1) po1 fun d2 v2 H2 hh2 po2 hv2 _ => ?_
  refine tD_S ((I.grow hh1).grow hh2) po2 fun d3 v3 H3 hh3 po3 hv3 _ => ?_
  obtain ⟨hc, po3⟩ := ifO_po po3
  obtain ⟨hc, h3⟩ := and_t hc
  obtain ⟨h1, h2⟩ := and_t hc
  have I2 : SI X.K H0 G0 O Γ σ H3 := ⟨Ls, S, ((I.grow hh1).grow hh2).grow hh3⟩
  exact ⟨v1, v2, v3, rfl, po3 _ _ (((I2.put0 hO h1 (((hv1 h1).mono hh2).mono hh3)).put0 hO' h2 ((hv2 h2).mono hh3)).put0 hO2 h3 (hv3 h3))⟩
end
end DL

set_option Elab.async false
set_option linter.all false
set_option maxRecDepth 100000
set_option maxHeartbeats 1000000
namespace DL
open PySem PySem.Spec PyProof.Rows L2

/-! ### a law's promise: True -/
def spW (m : List Dt → Res Dt) (K : PySem.W.Frag) : Sp := fun vs H Q _ => ∃ (a : Addr) (ns : List Int), vs = [V.ref a] ∧ SqL K H a (ns.map V.int) ∧ m [.scr ns] = .ok (.bl true) ∧ ∀ H', Q (.bl true) H'
theorem spW_of {m : List Dt → Res Dt} {K : PySem.W.Frag} {cm : Nat → Value} {vs : List V} {H : Hp} {Q : VK} {E : XK} (h : spW m K vs H Q E) : spD K cm 1 0 m vs H Q E := by
  obtain ⟨a, ns, rfl, hS, e, q⟩ := h
  refine ⟨[.scr ns], H, rfl, Same.refl _, ⟨_, _, rfl, ⟨a, rfl, hS⟩, rfl⟩, ?_⟩
  rw [e]
  intro v H' G' L st nd fr ow
  rw [Ow.zero] at ow
  obtain rfl : v = .bl true := ow.2
  exact q H'
theorem cx_never {P : Program} {w : World} {l : List PySem.Env} {H : Hp} {s : Shared} {e : Value} {s' : Shared} (h : L2.CX P w l H s (fun _ _ _ => False) e s') : False := by
  obtain ⟨_, _, _, _, _, _, _, _, _, _, _, _, z⟩ := h
  exact z
end DL

set_option Elab.async false
set_option linter.all false
set_option maxRecDepth 100000
set_option maxHeartbeats 1000000
namespace DL
open PySem PySem.Spec PyProof.Rows L2

/-! ### reading mirrors -/
theorem seq_nx {a b : Ms} {Γ Γ' : Ev} (h : a Γ = .nx Γ') : mSeq a b Γ = b Γ' := by unfold mSeq; rw [h]; rfl
theorem seq_ret {a b : Ms} {Γ : Ev} {d : Dt} (h : a Γ = .ret d) : mSeq a b Γ = .ret d := by unfold mSeq; rw [h]; rfl
theorem seq_exc {a b : Ms} {Γ : Ev} {c : Nat} (h : a Γ = .exc c) : mSeq a b Γ = .exc c := by unfold mSeq; rw [h]; rfl
theorem sT_nx {i k : Nat} {m : Mr} {Γ : Ev} {d : Dt} (h : m Γ = .ok d) (hd : deep k d = true) : sT i k m Γ = .nx (Γ.set i (some d)) := by unfold sT; rw [h]; exact if_pos hd
theorem sP_nx {i : Nat} {O : List Nat} {m : Mr} {Γ : Ev} {d : Dt} (h : m (mask O Γ) = .ok d) : sP O i m Γ = .nx (Γ.set i (some d)) := by unfold sP; rw [h]; rfl
theorem sRet_ok {m : Mr} {Γ : Ev} {d : Dt} (h : m Γ = .ok d) : sRet m Γ = .ret d := by unfold sRet; rw [h]; rfl
theorem if_t {c : Ev → Res Bool} {a b : Ms} {Γ : Ev} (h : c Γ = .ok true) : mIf c a b Γ = a Γ := by unfold mIf; rw [h]
theorem if_f {c : Ev → Res Bool} {a b : Ms} {Γ : Ev} (h : c Γ = .ok false) : mIf c a b Γ = b Γ := by unfold mIf; rw [h]
theorem bin_eq {f : Dt → Dt → Res Dt} {a b : Mr} {Γ : Ev} {x y : Dt} (h1 : a Γ = .ok x) (h2 : b Γ = .ok y) : mBin f a b Γ = f x y := by unfold mBin; rw [h1, h2]; rfl
theorem fn_eq {mf : List Dt → Res Dt} {k : Nat} {ms : Ev → Res (List Dt)} {Γ : Ev} {ds : List Dt} {d : Dt} (h : ms Γ = .ok ds) (hk : ds.length = k) (hd : mf ds = .ok d) : mFnN mf k ms Γ = .ok d := by
  unfold mFnN; rw [h, Res.bind_ok, hd]
  show guardR (decide (ds.length = k)) (.ok d) = .ok d
  rw [decide_eq_true hk]; rfl
theorem dEq_int (i j : Int) : dEq (.int i) (.int j) = decide (i = j) := by
  show PyData.eqv _ _ = _
  first
    | rfl
    | (unfold PyData.eqv; rfl)
    | simp [PyData.eqv, py]
theorem fEq_int (i j : Int) : fEq (.int i) (.int j) = .ok (.bl (decide (i = j))) := by
  show Res.ok (Dt.bl (dEq (.int i) (.int j))) = _
  rw [dEq_int]
theorem test_eq {m : Mr} {Γ : Ev} {b : Bool} (h : m Γ = .ok (.bl b)) : mTest m Γ = .ok b := by unfold mTest; rw [h]; rfl
theorem run_ret {n : Nat} {mb : Ms} {ds : List Dt} {d : Dt} (h : mb (startE n ds) = .ret d) : runF n mb ds = .ok d := by unfold runF; rw [h]
theorem run_exc {n : Nat} {mb : Ms} {ds : List Dt} {c : Nat} (h : mb (startE n ds) = .exc c) : runF n mb ds = .exc c := by unfold runF; rw [h]
def isTr (o : Out) : Bool := match o with | .ret (.bl true) => true | _ => false
theorem isTr_of {o : Out} (h : isTr o = true) : o = .ret (.bl true) := by
  unfold isTr at h
  split at h
  · rfl
  · cases h
/-- a cell of the script, nought behind its end -/
def bCell : Ms := mSeq (mIf (mTest (mBin fLt (mVar 1) (mCall fLen (mCons (mVar 0) mNil)))) (sRet (mBin fIx (mVar 0) (mVar 1))) mNext) (sRet (mC (.int 0)))
theorem atI_get (ns : List Int) (k : Nat) (h : k < ns.length) : atI ns (k : Int) = some (ns.getD k 0) := atI_nat (by rw [List.getD_eq_getElem?_getD, List.getElem?_eq_getElem h]; rfl)
theorem fIx_scr {ns : List Int} {i d : Int} (h : atI ns i = some d) : fIx (.scr ns) (.int i) = .ok (.int d) := by simp only [fIx, h]
theorem fIx_lst {ds : List Dt} {i : Int} {d : Dt} (h : atI ds i = some d) : fIx (.lst ds) (.int i) = .ok d := by simp only [fIx, h]
theorem cell_ok (ns : List Int) (k : Nat) : runF 2 bCell [.scr ns, .int k] = .ok (.int (ns.getD k 0)) := by
  by_cases h : k < ns.length
  · refine run_ret (seq_ret ((if_t (test_eq ?_)).trans (sRet_ok ?_)))
    · show Res.ok (Dt.bl (decide ((k : Int) < ns.length))) = _
      rw [decide_eq_true (by omega)]
    · exact fIx_scr (atI_get ns k h)
  · have e : bCell (startE 2 [.scr ns, .int k]) = .ret (.int 0) := by
      refine (seq_nx ((if_f (test_eq ?_)).trans rfl)).trans rfl
      show Res.ok (Dt.bl (decide ((k : Int) < ns.length))) = _
      rw [decide_eq_false (by omega)]
    rw [run_ret e, List.getD_eq_getElem?_getD, List.getElem?_eq_none (by omega)]; rfl
end DL

set_option Elab.async false
set_option linter.all false
set_option maxRecDepth 100000
set_option maxHeartbeats 2000000
namespace DL
open PySem PySem.Spec PyProof.Rows L2

/-! ### loops that change the items of an owned list or tuple in place -/
def mapO (f : Dt → Option Dt) : List Dt → Option (List Dt)
  | [] => some []
  | d :: ds => match f d, mapO f ds with
    | some d', some ds' => some (d' :: ds')
    | _, _ => none
theorem mapO_len {f : Dt → Option Dt} : ∀ {ds ds' : List Dt}, mapO f ds = some ds' → ds'.length = ds.length
  | [], ds', h => by cases h; rfl
  | d :: ds, ds', h => by
    unfold mapO at h
    split at h
    · rename_i d' es h1 h2
      cases h
      rw [List.length_cons, List.length_cons, mapO_len h2]
    · cases h
theorem mapO_get {f : Dt → Option Dt} : ∀ {ds ds' : List Dt} {i : Nat} {d : Dt}, mapO f ds = some ds' → ds[i]? = some d → ∃ d', f d = some d' ∧ ds'[i]? = some d'
  | [], ds', i, d, h, e => by simp at e
  | x :: ds, ds', i, d, h, e => by
    unfold mapO at h
    split at h
    · rename_i d' es h1 h2
      cases h
      cases i with
      | zero => cases e; exact ⟨d', h1, rfl⟩
      | succ i =>
        obtain ⟨d2, q1, q2⟩ := mapO_get (i := i) h2 (show ds[i]? = some d from e)
        exact ⟨d2, q1, q2⟩
    · cases h
def mapL (f : Dt → Option Dt) : Dt → Option Dt
  | .lst ds => (mapO f ds).map .lst
  | _ => none
def mapT (f : Dt → Option Dt) : Dt → Option Dt
  | .tup ds => (mapO f ds).map .tup
  | _ => none
/-- the slots beside js are left -/
def Beside (js : List Nat) (σ σ' : L2.St) : Prop := σ'.length = σ.length ∧ ∀ k, k ∉ js → σ'[k]? = σ[k]?
/-- the objects beside M are left, those of M stand -/
def Within (M : List Addr) (H H' : Hp) : Prop := (∀ b o, b ∉ M → H b = some o → H' b = some o) ∧ ∀ b ∈ M, ∃ o, H' b = some o
/-- the value of slot j, owned at the depth n, goes from d to f d -/
def tM (K : PySem.W.Frag) (j n : Nat) (js : List Nat) (f : Dt → Option Dt) : TS := fun D σ H => ∃ v d d' M G, σ[j]? = some (some v) ∧ M.Nodup ∧ Ow K H G n d v M ∧ (∀ a ∈ M, G a = none) ∧ f d = some d' ∧ (∀ k ∈ js, k < σ.length) ∧
  ∀ σ' H' M', Beside js σ σ' → Within M H H' → (∀ b ∈ M', b ∈ M) → M'.Nodup → Ow K H' G n d' v M' → D.nx σ' H'
def fApp (i : Int) : Dt → Option Dt
  | .lst es => if decide (es.length < 16777216) = true then some (.lst (es ++ [.int i])) else none
  | _ => none
section
variable {X : Cx} {j jx jy n : Nat} {js : List Nat} {f : Dt → Option Dt} {e : Expr} {pos : Pos} {i : Int}
theorem dm_app (h : PE X e (tBM X.K "list" rAppend (tVar j) (tCons (tC (.int i)) tNil))) (hs : swapsWith e none pos.line X.env = pure false := by rfl) : PS X (.Expr e pos) (tM X.K j (n + 1) [] (fApp i)) := by
  refine PS.of (ps_expr h hs) fun D σ H ⟨v, d, d', M, G, hσ, nd, ow, gn, hf, _, q⟩ => ?_
  cases d with
  | lst es =>
    have hf : (if decide (es.length < 16777216) = true then some (Dt.lst (es ++ [Dt.int i])) else none) = some d' := hf
    by_cases hz : decide (es.length < 16777216) = true
    · rw [if_pos hz] at hf
      cases hf
      obtain ⟨b, ws, L, rfl, hb, rfl, o⟩ := ow
      obtain ⟨nb, _⟩ := List.nodup_cons.mp nd
      have hl := Ows.length o
      refine ⟨.ref b, hσ, lst_ty hb, b, ws, .int i, rfl, rfl, hb, by rw [← hl] at hz; rw [sizeLine_eq]; exact of_decide_eq_true hz, ?_⟩
      have keep : ∀ c u, c ≠ b → H c = some u → upd H b (.lst (ws ++ [.int i])) c = some u := fun c u hc e => by rw [upd_ne hc]; exact e
      refine q σ _ (b :: L) ⟨rfl, fun _ _ => rfl⟩ ⟨fun c u hc e => keep c u (fun z => hc (by rw [z]; exact List.mem_cons_self)) e, fun c hc => ?_⟩ (fun c hc => hc) nd ⟨b, ws ++ [.int i], L, rfl, upd_same, rfl, ?_⟩
      · rcases List.mem_cons.mp hc with rfl | hc
        · exact ⟨_, upd_same⟩
        · obtain ⟨u, e⟩ := Ows.there (H := H) (fun d v L o => Ow.there o) o c hc
          exact ⟨u, keep c u (fun z => nb (by rw [← z]; exact hc)) e⟩
      · have z := Ows.snoc (d := .int i) (v := .int i) (L2 := []) (rp_ow (n := n) (H' := upd H b (.lst (ws ++ [.int i]))) (G' := G) (G := G) (d := .int i) rfl rfl) (o.monoL fun d v L1 hs o => o.move (Same.refl _) fun c hc u e => keep c u (fun z => nb (by rw [← z]; exact hs c hc)) e)
        rw [List.append_nil] at z
        exact z
    · rw [if_neg hz] at hf; cases hf
  | _ => cases hf
theorem loop_ok {K : PySem.W.Frag} {H G : Hp} {a : Addr} {o : HO} {vs : List V} {ds ds' : List Dt} {L' : List Addr} {σ : L2.St} {t : TS} {D : Ends} {J : It} (ha : H a = some o) (nd : (a :: L').Nodup) (gn : ∀ b ∈ L', G b = none) (ow : Ows (Ow K H G n) ds vs L') (hm : mapO f ds = some ds') (hjs : ∀ k ∈ jx :: js, k < σ.length)
    (body : ∀ D σ H, tM K jx n js f D σ H → t D σ H)
    (hstop : ∀ H', H' a = some o → J.stop ds.length H') (hgo : ∀ H' i, H' a = some o → i < ds.length → J.go i H') (hy : ∀ H' i x H'', H' a = some o → i < ds.length → J.yld i H' x H'' → H'' = H' ∧ vs[i]? = some x)
    (q : ∀ σ' H' L1, Beside (jx :: js) σ σ' → Within (a :: L') H H' → H' a = some o → (∀ b ∈ L1, b ∈ L') → L1.Nodup → Ows (Ow K H' G n) ds' vs L1 → D.nx σ' H') :
    ∃ W : Nat → Nat → L2.St → Hp → Prop, (∃ m, W 0 m σ H) ∧ ∀ i m σ H, W i m σ H → (J.stop i H ∧ D.nx σ H) ∨ (J.go i H ∧ ∃ N : L2.St → Hp → Prop, (∀ σ' H', N σ' H' → ∃ m', m' < m ∧ W (i + 1) m' σ' H') ∧ ∀ x H', J.yld i H x H' → gName jx x σ H' fun σ2 H2 => t { D with nx := N, ct := N, bk := D.nx } σ2 H2) := by
  obtain ⟨na, nd'⟩ := List.nodup_cons.mp nd
  have hlen := Ows.length ow
  have hlen' := mapO_len hm
  refine ⟨fun i m σ' H' => i + m = ds.length ∧ Beside (jx :: js) σ σ' ∧ Within (a :: L') H H' ∧ H' a = some o ∧ ∃ cur L1, cur.length = ds.length ∧ (∀ k, k < i → cur[k]? = ds'[k]?) ∧ (∀ k, i ≤ k → cur[k]? = ds[k]?) ∧ Ows (Ow K H' G n) cur vs L1 ∧ (∀ b ∈ L1, b ∈ L') ∧ L1.Nodup,
    ⟨ds.length, by omega, ⟨rfl, fun _ _ => rfl⟩, ⟨fun _ _ _ e => e, fun b hb => ?_⟩, ha, ds, L', rfl, fun k hk => by omega, fun _ _ => rfl, ow, fun _ h => h, nd'⟩, ?_⟩
  · rcases List.mem_cons.mp hb with rfl | hb
    · exact ⟨_, ha⟩
    · exact Ows.there (H := H) (fun d v L o => Ow.there o) ow b hb
  · rintro i m σ1 H1 ⟨him, bs, wi, ha1, cur, L1, cl, c1, c2, oc, sub, nd1⟩
    by_cases hi : i < ds.length
    · right
      refine ⟨hgo H1 i ha1 hi, fun σ' H' => (i + 1) + (m - 1) = ds.length ∧ Beside (jx :: js) σ σ' ∧ Within (a :: L') H H' ∧ H' a = some o ∧ ∃ cur L1, cur.length = ds.length ∧ (∀ k, k < i + 1 → cur[k]? = ds'[k]?) ∧ (∀ k, i + 1 ≤ k → cur[k]? = ds[k]?) ∧ Ows (Ow K H' G n) cur vs L1 ∧ (∀ b ∈ L1, b ∈ L') ∧ L1.Nodup,
        fun σ' H' h => ⟨m - 1, by omega, h⟩, fun x H2 yx => ?_⟩
      obtain ⟨rfl, hx⟩ := hy H1 i x H2 ha1 hi yx
      obtain ⟨A, M, B, u, d, rfl, hd, hu, od, oA, oB⟩ := Ows.split (by rw [cl]; exact hi) oc
      rw [hx] at hu
      cases hu
      have hdi : ds[i]? = some d := (c2 i (Nat.le_refl _)).symm.trans hd
      obtain ⟨d', hf, hd'⟩ := mapO_get hm hdi
      have n1 := List.nodup_append.mp nd1
      have n2 := List.nodup_append.mp n1.1
      have hMs : ∀ b ∈ M, b ∈ L' := fun b hb => sub b (by simp [hb])
      have hj : jx < σ1.length := by rw [bs.1]; exact hjs jx List.mem_cons_self
      · refine body _ _ _ ⟨x, d, d', M, G, List.getElem?_set_self hj, n2.2.1, od, fun b hb => gn b (hMs b hb), hf, fun k hk => by rw [List.length_set, bs.1]; exact hjs k (List.mem_cons_of_mem _ hk), fun σ3 H3 M3 bs3 wi3 s3 nd3 o3 => ⟨by omega, ?_, ?_, ?_, cur.set i d', A ++ M3 ++ B, by rw [List.length_set]; exact cl, fun k hk => ?_, fun k hk => ?_, ?_, ?_, ?_⟩⟩
        · refine ⟨bs3.1.trans (by rw [List.length_set]; exact bs.1), fun k hk => ?_⟩
          rw [bs3.2 k (fun z => hk (List.mem_cons_of_mem _ z)), List.getElem?_set_ne (fun z => hk (by rw [← z]; exact List.mem_cons_self)), bs.2 k hk]
        · refine ⟨fun b u hb e => wi3.1 b u (fun z => hb (List.mem_cons_of_mem _ (hMs b z))) (wi.1 b u hb e), fun b hb => ?_⟩
          by_cases z : b ∈ M
          · exact wi3.2 b z
          · obtain ⟨u, e⟩ := wi.2 b hb
            exact ⟨u, wi3.1 b u z e⟩
        · exact wi3.1 a o (fun z => na (hMs a z)) ha1
        · by_cases hk' : k = i
          · subst hk'
            rw [List.getElem?_set_self (by rw [cl]; exact hi), hd']
          · rw [List.getElem?_set_ne (fun z => hk' z.symm)]
            exact c1 k (by omega)
        · rw [List.getElem?_set_ne (by omega)]
          exact c2 k (by omega)
        · have mv : ∀ {es : List Dt} {us : List V} {Z : List Addr}, (∀ b ∈ Z, b ∉ M) → Ows (Ow K H2 G n) es us Z → Ows (Ow K H3 G n) es us Z := fun {es us Z} hZ o => o.monoL fun d v L1 hs o => o.move (Same.refl _) fun b hb u e => wi3.1 b u (hZ b (hs b hb)) e
          have same : vs.set i x = vs := by
            obtain ⟨hl, e⟩ := List.getElem?_eq_some_iff.mp hx
            rw [← e]; exact List.set_getElem_self hl
          have z := Ows.exch (by rw [cl]; exact hi) (List.getElem?_eq_some_iff.mp hx).1 (mv (fun b hb z => n2.2.2 b hb b z rfl) oA) (mv (fun b hb z => n1.2.2 b (List.mem_append_right _ z) b hb rfl) oB) o3
          rw [same] at z
          exact z
        · intro b hb
          simp only [List.mem_append] at hb
          rcases hb with (hb | hb) | hb
          · exact sub b (by simp [hb])
          · exact hMs b (s3 b hb)
          · exact sub b (by simp [hb])
        · refine List.nodup_append.mpr ⟨List.nodup_append.mpr ⟨n2.1, nd3, fun b hb c hc => n2.2.2 b hb c (s3 c hc)⟩, n1.2.1, fun b hb c hc => ?_⟩
          rcases List.mem_append.mp hb with hb | hb
          · exact n1.2.2 b (List.mem_append_left _ hb) c hc
          · exact n1.2.2 b (List.mem_append_right _ (s3 b hb)) c hc
    · left
      have e : i = ds.length := by omega
      subst e
      refine ⟨hstop H1 ha1, q σ1 H1 L1 bs wi ha1 sub nd1 ?_⟩
      have ec : cur = ds' := by
        refine List.ext_getElem? fun k => ?_
        by_cases hk : k < ds.length
        · exact c1 k hk
        · rw [List.getElem?_eq_none (by omega), List.getElem?_eq_none (by omega)]
      rw [← ec]
      exact oc
theorem dm_for {tg iter : Expr} {body : List Stmt} (hp : PassesOwn (model X.prog X.w) X.A X.env X.xe) (hc : X.calm = true) (hi : PE X iter (tVar jy)) (hg : PG X tg (gName jx)) (hb : PSs X body (tM X.K jx n js f)) (hs : ∀ x, foldedSetIterable iter X.env x = pure x := by intro _; rfl) :
    PS X (.For tg iter body [] pos) (fun D σ H => tM X.K jy (n + 1) (jx :: js) (mapL f) D σ H) := by
  refine PS.of (ps_for hp hc (pi_list hi) hg hb hs) fun D σ H ⟨v, d, d', M, G, hσ, nd, ow, gn, hf, hjs, q⟩ => ?_
  cases d with
  | lst ds =>
    obtain ⟨ds', hm, rfl⟩ := Option.map_eq_some_iff.mp hf
    obtain ⟨a, vs, L', rfl, ha, rfl, o⟩ := ow
    have hl := Ows.length o
    refine ⟨.ref a, hσ, a, rfl, ⟨vs, .inl (.inl ha)⟩, loop_ok (t := tM X.K jx n js f) ha nd (fun b hb => gn b (List.mem_cons_of_mem _ hb)) o hm hjs (fun _ _ _ h => h) (fun H' e => ⟨vs, .inl (.inl e), Nat.le_of_eq hl⟩) (fun H' i e hi => ⟨vs, vs[i], .inl (.inl e), List.getElem?_eq_getElem (by omega)⟩) (fun H' i x H'' e hi y => ⟨y.1, y.2 vs (.inl (.inl e))⟩) fun σ' H' L1 bs wi e sub nd1 o1 => ?_⟩
    obtain ⟨na, _⟩ := List.nodup_cons.mp nd
    exact q σ' H' (a :: L1) bs wi (fun b hb => (List.mem_cons.mp hb).elim (fun z => by rw [z]; exact List.mem_cons_self) fun z => List.mem_cons_of_mem _ (sub b z)) (List.nodup_cons.mpr ⟨fun z => na (sub a z), nd1⟩) ⟨a, vs, L1, rfl, e, rfl, o1⟩
  | _ => cases hf
theorem dm_forT {tg iter : Expr} {body : List Stmt} (hp : PassesOwn (model X.prog X.w) X.A X.env X.xe) (hc : X.calm = true) (hi : PE X iter (tVar jy)) (hg : PG X tg (gName jx)) (hb : PSs X body (tM X.K jx n js f)) (hs : ∀ x, foldedSetIterable iter X.env x = pure x := by intro _; rfl) :
    PS X (.For tg iter body [] pos) (fun D σ H => tM X.K jy (n + 1) (jx :: js) (mapT f) D σ H) := by
  refine PS.of (ps_for hp hc (pi_tup hi) hg hb hs) fun D σ H ⟨v, d, d', M, G, hσ, nd, ow, gn, hf, hjs, q⟩ => ?_
  cases d with
  | tup ds =>
    obtain ⟨ds', hm, rfl⟩ := Option.map_eq_some_iff.mp hf
    obtain ⟨a, vs, L', rfl, ha, rfl, o⟩ := ow
    have hl := Ows.length o
    refine ⟨.ref a, hσ, a, rfl, ⟨vs, .inl (.inl ha)⟩, loop_ok (t := tM X.K jx n js f) ha nd (fun b hb => gn b (List.mem_cons_of_mem _ hb)) o hm hjs (fun _ _ _ h => h) (fun H' e => ⟨vs, .inl (.inl e), Nat.le_of_eq hl⟩) (fun H' i e hi => ⟨vs, vs[i], .inl (.inl e), List.getElem?_eq_getElem (by omega)⟩) (fun H' i x H'' e hi y => ⟨y.1, y.2 vs (.inl (.inl e))⟩) fun σ' H' L1 bs wi e sub nd1 o1 => ?_⟩
    obtain ⟨na, _⟩ := List.nodup_cons.mp nd
    exact q σ' H' (a :: L1) bs wi (fun b hb => (List.mem_cons.mp hb).elim (fun z => by rw [z]; exact List.mem_cons_self) fun z => List.mem_cons_of_mem _ (sub b z)) (List.nodup_cons.mpr ⟨fun z => na (sub a z), nd1⟩) ⟨a, vs, L1, rfl, e, rfl, o1⟩
  | _ => cases hf
def clr (Γ : Ev) : List Nat → Ev
  | [] => Γ
  | j :: js => clr (Γ.set j none) js
theorem clr_len : ∀ (js : List Nat) (Γ : Ev), (clr Γ js).length = Γ.length
  | [], Γ => rfl
  | j :: js, Γ => by unfold clr; rw [clr_len js, List.length_set]
theorem clr_get : ∀ {js : List Nat} {Γ : Ev} {k : Nat} {d : Dt}, (clr Γ js)[k]? = some (some d) → k ∉ js ∧ Γ[k]? = some (some d)
  | [], Γ, k, d, h => ⟨List.not_mem_nil, h⟩
  | j :: js, Γ, k, d, h => by
    unfold clr at h
    obtain ⟨h1, h2⟩ := clr_get h
    by_cases hk : k = j
    · subst hk
      by_cases hl : k < Γ.length
      · rw [List.getElem?_set_self hl] at h2; cases h2
      · rw [List.getElem?_eq_none (by rw [List.length_set]; omega)] at h2; cases h2
    · rw [List.getElem?_set_ne (fun z => hk z.symm)] at h2
      exact ⟨fun z => (List.mem_cons.mp z).elim hk h1, h2⟩
def sMut (i : Nat) (js : List Nat) (f : Dt → Option Dt) : Ms := fun Γ => match Γ[i]? with
  | some (some d) => match f d with
    | some d' => ifO (js.all fun k => decide (k < Γ.length)) (.nx ((clr Γ js).set i (some d')))
    | none => .bad
  | _ => .bad
theorem ds_mut {cm : Nat → Value} {W : WX} {nr i : Nat} {O : List Nat} {st : Stmt} (hO : lv O i = n) (h : PS X st (tM X.K i n js f)) (hij : js.contains i = false := by rfl) : DS X cm W nr O O st (sMut i js f) := by
  refine PS.of h fun D σ H ⟨H0, G0, Γ, ⟨Ls, S, I⟩, po⟩ => ?_
  have hij' : i ∉ js := fun z => by
    have : js.contains i = true := List.contains_iff_mem.mpr z
    rw [hij] at this; cases this
  unfold sMut at po
  cases hx : Γ[i]? with
  | none => rw [hx] at po; exact (show False from po).elim
  | some od =>
    cases od with
    | none => rw [hx] at po; exact (show False from po).elim
    | some d =>
      rw [hx] at po
      dsimp only at po
      cases hf : f d with
      | none => rw [hf] at po; exact (show False from po).elim
      | some d' =>
        rw [hf] at po
        obtain ⟨hl, po⟩ := ifO_po po
        obtain ⟨v, h1, h2⟩ := I.rep i d hx
        rw [hO] at h2
        have S0 := I.sub i
        refine ⟨v, d, d', Ls i, Vw H0 G0 S H, h1, I.nd i, h2, fun a ha => ?_, hf, fun k hk => ?_, fun σ' H' M' bs wi sub nd' ow' => po σ' H' ?_⟩
        · cases q : Vw H0 G0 S H a with
          | none => rfl
          | some u => exact absurd (S0 a ha) (Vw.inv q).1
        · have := List.all_eq_true.mp hl k hk
          rw [← I.len]
          exact of_decide_eq_true this
        · have keep : ∀ b o, b ∉ S → H b = some o → H' b = some o := fun b o hb e => wi.1 b o (fun z => hb (S0 b z)) e
          have sv : Same (Vw H0 G0 S H) (Vw H0 G0 S H') := fun b u e => by
            obtain ⟨q1, q2, q3⟩ := Vw.inv e
            exact Vw.of q1 q2 (keep b u q1 q3)
          refine ⟨fun k => if k = i then M' else Ls k, S, fun b u e => keep b u (fun z => by rw [(I.own b z).1] at e; cases e) (I.h0 _ _ e), fun b u e => keep b u (fun z => by rw [(I.own b z).2.1] at e; cases e) (I.g0 _ _ e), fun b hb => ⟨(I.own b hb).1, (I.own b hb).2.1, ?_⟩, fun k b hb => ?_, fun k => ?_, fun k l hkl b hb => ?_, fun k dk e => ?_, by rw [List.length_set, clr_len, bs.1]; exact I.len⟩
          · by_cases z : b ∈ Ls i
            · exact wi.2 b z
            · obtain ⟨u, e⟩ := (I.own b hb).2.2
              exact ⟨u, wi.1 b u z e⟩
          · by_cases hk : k = i
            · rw [if_pos hk] at hb; exact S0 b (sub b hb)
            · rw [if_neg hk] at hb; exact I.sub k b hb
          · skip
            split
            · exact nd'
            · exact I.nd k
          · by_cases hk : k = i
            · rw [if_pos hk] at hb
              have hl' : l ≠ i := fun z => hkl (hk.trans z.symm)
              rw [if_neg hl']
              exact I.dj i l (fun z => hl' z.symm) b (sub b hb)
            · rw [if_neg hk] at hb
              split
              · exact fun z => I.dj k i hk b hb (sub b z)
              · exact I.dj k l hkl b hb
          · by_cases hk : k = i
            · subst hk
              have hlt : k < Γ.length := (List.getElem?_eq_some_iff.mp hx).1
              rw [List.getElem?_set_self (by rw [clr_len]; exact hlt)] at e
              cases e
              refine ⟨v, by rw [bs.2 k hij']; exact h1, ?_⟩
              rw [if_pos rfl, hO]
              exact ow'.mono (Same.refl _) sv
            · rw [List.getElem?_set_ne (fun z => hk z.symm)] at e
              obtain ⟨hkj, e⟩ := clr_get e
              obtain ⟨u, q1, q2⟩ := I.rep k dk e
              refine ⟨u, by rw [bs.2 k hkj]; exact q1, ?_⟩
              rw [if_neg hk]
              exact q2.move sv fun b hb u e => wi.1 b u (fun z => I.dj k i hk b hb z) e
end
end DL

set_option Elab.async false
set_option linter.all false
set_option maxRecDepth 100000
set_option maxHeartbeats 2000000
namespace DL
open PySem PySem.Spec PyProof.Rows L2
open PySem.W (dataLe dataLt rowLt alike alikeAll AllAlike Sortable EachIs)

/-! ### sorted(boards) -/
abbrev Bd := List (List Int)
def rowD (r : List Int) : Dt := .lst (r.map Dt.int)
def bD (b : Bd) : Dt := .lst (b.map rowD)
def row? : Dt → Option (List Int)
  | .lst ds => ints? ds
  | _ => none
def rows? : List Dt → Option Bd
  | [] => some []
  | d :: ds => match row? d, rows? ds with
    | some r, some b => some (r :: b)
    | _, _ => none
def bd? : Dt → Option Bd
  | .lst ds => rows? ds
  | _ => none
def bds? : List Dt → Option (List Bd)
  | [] => some []
  | d :: ds => match bd? d, bds? ds with
    | some r, some b => some (r :: b)
    | _, _ => none
theorem row?_some {d : Dt} {r : List Int} (h : row? d = some r) : d = rowD r := by
  cases d with
  | lst ds => rw [ints?_some (show ints? ds = some r from h)]; rfl
  | _ => cases h
theorem rows?_some : ∀ {ds : List Dt} {b : Bd}, rows? ds = some b → ds = b.map rowD
  | [], b, h => by cases h; rfl
  | d :: ds, b, h => by
    unfold rows? at h
    split at h
    · rename_i r b' h1 h2
      cases h
      rw [row?_some h1, rows?_some h2]; rfl
    · cases h
theorem bd?_some {d : Dt} {b : Bd} (h : bd? d = some b) : d = bD b := by
  cases d with
  | lst ds => rw [rows?_some (show rows? ds = some b from h)]; rfl
  | _ => cases h
theorem bds?_some : ∀ {ds : List Dt} {b : List Bd}, bds? ds = some b → ds = b.map bD
  | [], b, h => by cases h; rfl
  | d :: ds, b, h => by
    unfold bds? at h
    split at h
    · rename_i r b' h1 h2
      cases h
      rw [bd?_some h1, bds?_some h2]; rfl
    · cases h
@[simp] theorem row?_of (r : List Int) : row? (rowD r) = some r := ints?_map r
@[simp] theorem rows?_of : ∀ b : Bd, rows? (b.map rowD) = some b
  | [] => rfl
  | r :: b => by rw [List.map_cons, rows?, row?_of, rows?_of b]
@[simp] theorem bd?_of (b : Bd) : bd? (bD b) = some b := rows?_of b
@[simp] theorem bds?_of : ∀ bs : List Bd, bds? (bs.map bD) = some bs
  | [] => rfl
  | b :: bs => by rw [List.map_cons, bds?, bd?_of, bds?_of bs]
/-- a row, a board, as the kit's data -/
def rowP (r : List Int) : PyData := .list (r.map .int)
theorem pys_ints : ∀ r : List Int, pys (r.map Dt.int) = r.map PyData.int
  | [] => rfl
  | i :: r => by rw [List.map_cons, pys, pys_ints r]; rfl
theorem py_row (r : List Int) : py (rowD r) = rowP r := by unfold rowD; rw [py, pys_ints]; rfl
theorem py_bd (b : Bd) : py (bD b) = .list (b.map rowP) := by
  unfold bD
  rw [py, pys_map, List.map_map]
  congr 1
  exact List.map_congr_left fun r _ => py_row r
theorem alike_row (r s : List Int) : alike (rowP r) (rowP s) = true := by
  unfold rowP
  rw [alike]
  exact PySem.W.alike_ints r s
theorem alike_rows : ∀ a b : Bd, alikeAll (a.map rowP) (b.map rowP) = true
  | [], b => by rw [List.map_nil, alikeAll]
  | r :: a, [] => by rw [List.map_nil, List.map_cons, alikeAll]
  | r :: a, s :: b => by rw [List.map_cons, List.map_cons, alikeAll, alike_row, alike_rows a b]; rfl
theorem alike_bd (a b : Bd) : alike (py (bD a)) (py (bD b)) = true := by
  rw [py_bd, py_bd, alike]
  exact alike_rows a b
theorem eqvAll_ints : ∀ r s : List Int, PyData.eqvAll (r.map .int) (s.map .int) = decide (r = s)
  | [], [] => by simp [PyData.eqvAll]
  | [], y :: s => by simp [PyData.eqvAll]
  | x :: r, [] => by simp [PyData.eqvAll]
  | x :: r, y :: s => by
    rw [List.map_cons, List.map_cons, PySem.W.eqv_all_cons, eqvAll_ints r s]
    have e : PyData.eqv (.int x) (.int y) = decide (x = y) := dEq_int x y
    rw [e]
    by_cases h : x = y <;> by_cases h2 : r = s <;> simp [h, h2]
theorem eqv_row (r s : List Int) : PyData.eqv (rowP r) (rowP s) = decide (r = s) := by
  unfold rowP
  rw [PyData.eqv]
  exact eqvAll_ints r s
theorem lt_row (r s : List Int) : dataLt (rowP r) (rowP s) = decide (r < s) := by
  unfold rowP
  rw [PySem.W.dataLt_list]
  exact PySem.W.dataLt_ints r s
theorem lt_rows : ∀ a b : Bd, rowLt (a.map rowP) (b.map rowP) = decide (a < b)
  | [], [] => by
    have e : rowLt [] [] = false := lex_irrefl _
    simp [e]
  | [], s :: b => by
    have e : rowLt [] (rowP s :: b.map rowP) = true := by
      unfold PySem.W.rowLt
      rw [PySem.W.toks_all_cons]
      simp only [PySem.W.keyToksAll]
      rw [lex_diff (O := itemOrd) (by simp)] <;> rfl
    simpa using e
  | r :: a, [] => by
    have e : rowLt (rowP r :: a.map rowP) [] = false := by
      unfold PySem.W.rowLt
      rw [PySem.W.toks_all_cons]
      simp only [PySem.W.keyToksAll]
      rw [lex_diff (O := itemOrd) (by simp)] <;> rfl
    simpa using e
  | r :: a, s :: b => by
    have e : rowLt (rowP r :: a.map rowP) (rowP s :: b.map rowP) = if r = s then rowLt (a.map rowP) (b.map rowP) else decide (r < s) := by
      unfold PySem.W.rowLt
      rw [PySem.W.dataLt_cons (alike_row r s), lt_row, eqv_row]
      by_cases h : r = s <;> simp [h]
    show rowLt (rowP r :: a.map rowP) (rowP s :: b.map rowP) = _
    rw [e]
    by_cases h : r = s
    · rw [if_pos h, lt_rows a b]
      simp [h, List.cons_lt_cons_iff]
    · rw [if_neg h]
      simp [h, List.cons_lt_cons_iff]
theorem lt_bd (a b : Bd) : dataLt (py (bD a)) (py (bD b)) = decide (a < b) := by
  rw [py_bd, py_bd, PySem.W.dataLt_list]
  exact lt_rows a b
def leB (a b : Bd) : Bool := decide (a ≤ b)
def sortB (bs : List Bd) : List Bd := bs.mergeSort leB
def leP (p q : V × Bd) : Bool := leB p.2 q.2
theorem le_data : dataLe false (fun p : V × Bd => py (bD p.2)) = leP := by
  funext p q
  show (!dataLt (py (bD q.2)) (py (bD p.2))) = decide (p.2 ≤ q.2)
  rw [lt_bd]
  by_cases h : q.2 < p.2
  · have h' : ¬ p.2 ≤ q.2 := fun r => List.not_lt.mpr r h
    simp [h, h']
  · have h' : p.2 ≤ q.2 := List.not_lt.mp h
    simp [h, h']
def rSortedB (K : PySem.W.Frag) : List V → Hp → VK → Prop := fun vs H Q => ∃ (a : Addr) (ps : List (V × Bd)), vs = [V.ref a] ∧ SqL K H a (ps.map (·.1)) ∧ (∀ q ∈ ps, Dp K H q.1 (py (bD q.2))) ∧ ∀ p, H p = none → Q (.ref p) (upd H p (.lst ((ps.mergeSort leP).map (·.1))))
theorem each_vals {K : PySem.W.Frag} {H : Hp} : ∀ {ps : List (V × Bd)} {us : List Value}, Vals (ps.map (·.1)) us → EachIs (fun u p => RelV p.1 u) us ps
  | [], _, .nil => .nil
  | p :: ps, _, .cons r t => .cons r (each_vals (K := K) (H := H) t)
theorem vals_each : ∀ {ps : List (V × Bd)} {us : List Value}, EachIs (fun u p => RelV p.1 u) us ps → Vals (ps.map (·.1)) us
  | [], _, .nil => .nil
  | p :: ps, _, .cons r t => .cons r (vals_each t)
theorem each_mem {α β : Type} {R S : α → β → Prop} : ∀ {as : List α} {bs : List β}, EachIs R as bs → (∀ a b, b ∈ bs → R a b → S a b) → EachIs S as bs
  | _, _, .nil, _ => .nil
  | _, _, .cons r t, h => .cons (h _ _ List.mem_cons_self r) (each_mem t fun a b hb => h a b (List.mem_cons_of_mem _ hb))
theorem depth_bd (b : Bd) : (py (bD b)).depth ≤ 2 := (py_deep (n := 2) (by
  show (b.map rowD).all (deep 1) = true
  refine List.all_eq_true.mpr fun d hd => ?_
  obtain ⟨r, _, rfl⟩ := List.mem_map.mp hd
  show (r.map Dt.int).all (deep 0) = true
  refine List.all_eq_true.mpr fun d hd => ?_
  obtain ⟨i, _, rfl⟩ := List.mem_map.mp hd
  rfl)).2
theorem cr_sortedB {X : Cx} (hu : X.A.units + 65 < cLine) : CallR X (.builtin "sorted") (rSortedB X.K) := by
  intro pins s σ H vs us Q I r h
  obtain ⟨a, ps, rfl, hs, hd, q⟩ := h
  obtain ⟨its, rv, hl, hz⟩ := I.list hs
  rw [Vals.ref1 r]
  have e := each_vals (K := X.K) (H := H) rv
  have hlen : ps.length ≤ sizeLine := by rw [List.length_map] at hz; exact hz
  refine PySem.W.sorted_data (β := V × Bd) (vs := its) (bs := ps) (enc := fun p => py (bD p.2)) (R := fun u p => RelV p.1 u) hl.isList e ?_ (PySem.W.AllAlike.of fun b b' => alike_bd b.2 b'.2) (PySem.W.Sortable.others fun b => ?_) hlen (fun b _ => ?_) fun out ol ho => ?_
  · exact each_mem e fun u p hp rp => Dp.reads I _ p.1 u (hd p hp) rp
  · rw [py_bd]
    exact ⟨fun z => (nomatch z), fun xs z => (nomatch z)⟩
  · have := depth_bd b.2
    omega
  · rw [le_data] at ho
    obtain ⟨ep, he'⟩ := PyProof.Rows.sortedAll_at s.heap its out.toArray
    have hlen2 : ((ps.mergeSort leP).map (·.1)).length ≤ sizeLine := by rw [List.length_map, List.length_mergeSort]; exact hlen
    exact ⟨.ref _, upd H (s.heap.objs.size + 1) (.lst ((ps.mergeSort leP).map (·.1))), I.laid (t' := s.toks) (fun _ _ => PyProof.Rows.sortedAll_old) (Nat.le_succ _) ⟨hlen2, out, ep, vals_each ho, he'⟩, rfl, q _ (I.hok.fresh (Nat.le_succ _))⟩
def fSortedK : List Dt → Res Dt
  | [.lst ds] => match bds? ds with
    | some bs => .ok (.lst ((sortB bs).map bD))
    | none => .bad
  | _ => .bad
theorem rps_pairs {K : PySem.W.Frag} {G : Hp} : ∀ {bs : List Bd} {us : List V}, Rps K G (bs.map bD) us → (us.zip bs).map (·.1) = us ∧ (us.zip bs).map (·.2) = bs ∧ ∀ q ∈ us.zip bs, Rp K G (bD q.2) q.1
  | [], us, r => by rw [show us = [] from r]; exact ⟨rfl, rfl, fun q hq => by cases hq⟩
  | b :: bs, us, r => by
    obtain ⟨v, t, rfl, g, q⟩ := r
    obtain ⟨h1, h2, h3⟩ := rps_pairs q
    refine ⟨by rw [List.zip_cons_cons, List.map_cons, h1], by rw [List.zip_cons_cons, List.map_cons, h2], fun p hp => ?_⟩
    rw [List.zip_cons_cons] at hp
    rcases List.mem_cons.mp hp with rfl | hp
    · exact g
    · exact h3 p hp
theorem pairs_rps {K : PySem.W.Frag} {G : Hp} : ∀ {ps : List (V × Bd)}, (∀ q ∈ ps, Rp K G (bD q.2) q.1) → Rps K G ((ps.map (·.2)).map bD) (ps.map (·.1))
  | [], _ => rfl
  | p :: ps, h => ⟨p.1, ps.map (·.1), rfl, h p List.mem_cons_self, pairs_rps fun q hq => h q (List.mem_cons_of_mem _ hq)⟩
theorem sortedKD {X : Cx} {cm : Nat → Value} {n : Nat} (hn : n ≤ 1) : CallD X cm n (rSortedB X.K) fSortedK := fun Em vs H G ds Q s rr po => by
  match ds, rr, po with
  | [], _, po => exact (show False from po).elim
  | [.lst us], rr, po =>
    obtain ⟨v, rfl, a, ws, rfl, ga, q⟩ := rps1 rr
    cases hb : bds? us with
    | none => simp only [fSortedK, hb] at po; exact (show False from po).elim
    | some bs =>
      simp only [fSortedK, hb] at po
      rw [bds?_some hb] at q
      obtain ⟨h1, h2, h3⟩ := rps_pairs q
      refine ⟨a, ws.zip bs, rfl, by rw [h1]; exact .inl (.inl (s _ _ ga)), fun p hp => ?_, fun p np => ?_⟩
      · refine dp_of s (n := 2) ?_ (h3 p hp)
        show (p.2.map rowD).all (deep 1) = true
        refine List.all_eq_true.mpr fun d hd => ?_
        obtain ⟨r, _, rfl⟩ := List.mem_map.mp hd
        show (r.map Dt.int).all (deep 0) = true
        refine List.all_eq_true.mpr fun d hd => ?_
        obtain ⟨i, _, rfl⟩ := List.mem_map.mp hd
        rfl
      · refine Post.list po hn s np ?_
        have e : (((ws.zip bs).mergeSort leP).map (·.2)) = sortB bs := by
          unfold sortB
          rw [List.map_mergeSort (r := leP) (s := leB) (f := (·.2)) (fun a _ b _ => rfl), h2]
        rw [← e]
        exact pairs_rps fun q hq => h3 q ((List.mergeSort_perm _ _).mem_iff.mp hq)
  | [.non], _, po => exact (show False from po).elim
  | [.bl _], _, po => exact (show False from po).elim
  | [.int _], _, po => exact (show False from po).elim
  | [.tup _], _, po => exact (show False from po).elim
  | [.scr _], _, po => exact (show False from po).elim
  | d :: d' :: t, _, po => exact (show False from (by cases d <;> exact po)).elim
theorem de_sortedK {X : Cx} {cm : Nat → Value} {E : L2.St → XK} {n : Nat} {e : Expr} {m : Mr} {pos p : Pos} (hn : n ≤ 1) (hu : X.A.units + 65 < cLine) (hm : X.mg "sorted" = none) (ha : DE X cm E 0 e m) (hg : Gl X "sorted" := by rfl) (he : starEach [e] X.env = (false, eval e X.env) :: starEach [] X.env := by rfl) (hpl : (backTo pos (starEach [] X.env)).any (·.1) = false := by rfl) :
    DE X cm E n (.Call (.Name "sorted" p) [e] [] pos) (mCall fSortedK (mCons m mNil)) :=
  de_callB (sortedKD hn) (cr_sortedB hu) hg hm boot_sorted (da_cons ha da_nil he) (by decide) (by decide) he hpl
/-! ### return sorted(x), x owned: its items go along -/
theorem ows_perm {P : Dt → V → List Addr → Prop} {ps qs : List (V × Bd)} (h : ps.Perm qs) : ∀ {L : List Addr}, Ows P (ps.map fun p => bD p.2) (ps.map (·.1)) L → ∃ L', L'.Perm L ∧ Ows P (qs.map fun p => bD p.2) (qs.map (·.1)) L' := by
  induction h with
  | nil => intro L o; exact ⟨L, .refl _, o⟩
  | cons x h ih =>
    intro L o
    obtain ⟨v, r, L1, L2, e1, rfl, p, q⟩ := o
    cases e1
    obtain ⟨L', h1, h2⟩ := ih q
    exact ⟨L1 ++ L', h1.append_left L1, _, _, L1, L', rfl, rfl, p, h2⟩
  | swap x y l =>
    intro L o
    obtain ⟨v, r, L1, L2, e1, rfl, p, q⟩ := o
    cases e1
    obtain ⟨v, r, L3, L4, e1, rfl, p', q'⟩ := q
    cases e1
    refine ⟨L3 ++ (L1 ++ L4), ?_, _, _, L3, L1 ++ L4, rfl, rfl, p', _, _, L1, L4, rfl, rfl, p, q'⟩
    rw [← List.append_assoc, ← List.append_assoc]
    exact List.Perm.append_right L4 List.perm_append_comm
  | trans h1 h2 ih1 ih2 =>
    intro L o
    obtain ⟨L1, p1, o1⟩ := ih1 o
    obtain ⟨L2, p2, o2⟩ := ih2 o1
    exact ⟨L2, p2.trans p1, o2⟩
theorem ows_pairs {P : Dt → V → List Addr → Prop} : ∀ {bs : List Bd} {us : List V} {L : List Addr}, Ows P (bs.map bD) us L → (us.zip bs).map (·.1) = us ∧ (us.zip bs).map (·.2) = bs
  | [], us, L, o => by rw [o.1]; exact ⟨rfl, rfl⟩
  | b :: bs, us, L, ⟨v, r, L1, L2, e, _, _, q⟩ => by
    subst e
    obtain ⟨h1, h2⟩ := ows_pairs q
    exact ⟨by rw [List.zip_cons_cons, List.map_cons, h1], by rw [List.zip_cons_cons, List.map_cons, h2]⟩
def sRetS (i : Nat) : Ms := fun Γ => match Γ[i]? with
  | some (some (.lst ds)) => match bds? ds with
    | some bs => .ret (.lst ((sortB bs).map bD))
    | none => .bad
  | _ => .bad
theorem sRetS_ok {K : PySem.W.Frag} {cm : Nat → Value} {W : WX} {nr i : Nat} {O' : List Nat} {Γ : Ev} {H0 G0 : Hp} {D : Ends} (po : SPost K cm W nr H0 G0 O' (sRetS i Γ) D) : ∃ bs : List Bd, Γ[i]? = some (some (.lst (bs.map bD))) ∧ SPost K cm W nr H0 G0 O' (.ret (.lst ((sortB bs).map bD))) D := by
  unfold sRetS at po
  split at po
  · rename_i ds h
    split at po
    · rename_i bs hb
      exact ⟨bs, by rw [h, bds?_some hb], po⟩
    · exact po.elim
  · exact po.elim
theorem ds_retS {X : Cx} {cm : Nat → Value} {W : WX} {n i : Nat} {O O' : List Nat} {e : Expr} {pos pos2 p : Pos} (hO : lv O i = n + 1) (hu : X.A.units + 65 < cLine) (hm : X.mg "sorted" = none) (ha : PE X e (tVar i)) (hg : Gl X "sorted" := by rfl) (he : starEach [e] X.env = (false, eval e X.env) :: starEach [] X.env := by rfl) (hpl : (backTo pos (starEach [] X.env)).any (·.1) = false := by rfl) :
    DS X cm W (n + 1) O O' (.Return (some (.Call (.Name "sorted" p) [e] [] pos)) pos2) (sRetS i) := by
  refine PS.of (ps_ret (pe_callB (cr_sortedB hu) hg hm boot_sorted (pa_cons ha pa_nil he) (by decide) (by decide) he hpl)) fun D σ H ⟨H0, G0, Γ, ⟨Ls, S, I⟩, po⟩ => ?_
  obtain ⟨bs, hΓ, po⟩ := sRetS_ok po
  obtain ⟨v, h1, h2⟩ := I.rep i _ hΓ
  obtain ⟨v', h1', r'⟩ := I.all.at_ i _ hΓ
  rw [h1] at h1'
  cases h1'
  rw [hO] at h2
  obtain ⟨a, vs, L', rfl, ha2, e3, o⟩ := h2
  obtain ⟨a', vs', ea, ga, rr⟩ := r'
  cases ea
  have ev : vs' = vs := by
    have q := Vw.same _ _ ga
    rw [ha2] at q
    cases q; rfl
  subst ev
  obtain ⟨z1, z2, z3⟩ := rps_pairs rr
  refine ⟨.ref a, h1, a, vs'.zip bs, rfl, by rw [z1]; exact .inl (.inl ha2), fun q hq => ?_, fun p np => ?_⟩
  · refine dp_of Vw.same (n := 2) ?_ (z3 q hq)
    show (q.2.map rowD).all (deep 1) = true
    refine List.all_eq_true.mpr fun d hd => ?_
    obtain ⟨r, _, rfl⟩ := List.mem_map.mp hd
    show (r.map Dt.int).all (deep 0) = true
    refine List.all_eq_true.mpr fun d hd => ?_
    obtain ⟨i, _, rfl⟩ := List.mem_map.mp hd
    rfl
  · have e : ((vs'.zip bs).mergeSort leP).map (fun p => bD p.2) = (sortB bs).map bD := by
      have e2 : ((vs'.zip bs).mergeSort leP).map (·.2) = sortB bs := by
        unfold sortB
        rw [List.map_mergeSort (r := leP) (s := leB) (f := (·.2)) (fun a _ b _ => rfl), z2]
      rw [← e2, List.map_map]; rfl
    have o' : Ows (Ow X.K H (Vw H0 G0 S H) n) ((vs'.zip bs).map fun p => bD p.2) ((vs'.zip bs).map (·.1)) L' := by
      have e4 : (vs'.zip bs).map (fun p => bD p.2) = bs.map bD := by
        have : (vs'.zip bs).map (fun p => bD p.2) = ((vs'.zip bs).map (·.2)).map bD := by rw [List.map_map]; rfl
        rw [this, z2]
      rw [e4, z1]; exact o
    obtain ⟨L1, pm, o1⟩ := ows_perm (List.mergeSort_perm (vs'.zip bs) leP).symm o'
    rw [e] at o1
    have nd := I.nd i
    rw [e3] at nd
    obtain ⟨na, nd⟩ := List.nodup_cons.mp nd
    have inS : ∀ b ∈ L1, b ∈ S := fun b hb => I.sub i b (by rw [e3]; exact List.mem_cons_of_mem _ (pm.mem_iff.mp hb))
    have st : Stp H0 G0 H (Vw H0 G0 S H) := ⟨I.h0, I.g0v, Vw.same, fun a o q => (Vw.inv q).2.1⟩
    have st2 := st.trans (Stp.newH Vw.same np (.lst (((vs'.zip bs).mergeSort leP).map (·.1))))
    have up : Same H (upd H p (.lst (((vs'.zip bs).mergeSort leP).map (·.1)))) := fun b u e => by rw [upd_ne (ne_of_none e np)]; exact e
    have po' : ∀ v H', RetOk X.K (n + 1) H0 G0 (.lst ((sortB bs).map bD)) v H' → D.rt v H' := po
    refine po' _ _ ⟨Vw H0 G0 S H, p :: L1, st2, List.nodup_cons.mpr ⟨fun z => ?_, pm.nodup_iff.mpr nd⟩, fun b hb => ?_, p, _, L1, rfl, upd_same, rfl, o1.mono fun d v L o => o.mono up (Same.refl _)⟩
    · obtain ⟨u, w⟩ := (I.own p (inS p z)).2.2
      rw [np] at w; cases w
    · rcases List.mem_cons.mp hb with rfl | hb
      · exact ⟨none_back I.h0 np, none_back Vw.same np⟩
      · refine ⟨(I.own b (inS b hb)).1, ?_⟩
        cases z : Vw H0 G0 S H b with
        | none => rfl
        | some o => exact absurd (inS b hb) (Vw.inv z).1
end DL

set_option Elab.async false
set_option linter.all false
set_option maxRecDepth 100000
set_option maxHeartbeats 2000000
namespace DL
open PySem PySem.Spec PyProof.Rows L2

/-! ### x[i].append(x[j].pop()) -/
def lastO (es : List Dt) (f : Dt → Out) : Out := match es[es.length - 1]? with
  | some d => f d
  | none => .bad
def rowO (ds : List Dt) (p : Nat) (f : List Dt → Out) : Out := match ds[p]? with
  | some (.lst es) => f es
  | _ => .bad
def sPopApp (i : Nat) (m1 m2 : Mr) : Ms := fun Γ => onL Γ i fun ds => toOut (m1 Γ) fun j1 => onR ds j1 fun p1 _ => toOut (m2 Γ) fun j2 => onR ds j2 fun p2 es2 => lastO es2 fun d => ifO (isScal d)
  (rowO (ds.set p2 (.lst es2.dropLast)) p1 fun es1 => ifO (decide (es1.length < 16777216)) (.nx (Γ.set i (some (.lst ((ds.set p2 (.lst es2.dropLast)).set p1 (.lst (es1 ++ [d]))))))))
section
variable {X : Cx} {cm : Nat → Value} {W : WX} {nr : Nat} {O O' : List Nat} {i n : Nat} {e : Expr} {m1 m2 : Mr} {pos : Pos}
theorem lastO_po {K : PySem.W.Frag} {H0 G0 : Hp} {es : List Dt} {f : Dt → Out} {D : Ends} (po : SPost K cm W nr H0 G0 O (lastO es f) D) : ∃ d, es[es.length - 1]? = some d ∧ SPost K cm W nr H0 G0 O (f d) D := by
  unfold lastO at po
  split at po
  · rename_i d h; exact ⟨d, h, po⟩
  · exact po.elim
theorem rowO_po {K : PySem.W.Frag} {H0 G0 : Hp} {ds : List Dt} {p : Nat} {f : List Dt → Out} {D : Ends} (po : SPost K cm W nr H0 G0 O (rowO ds p f) D) : ∃ es, ds[p]? = some (.lst es) ∧ SPost K cm W nr H0 G0 O (f es) D := by
  unfold rowO at po
  split at po
  · rename_i es h; exact ⟨es, h, po⟩
  · exact po.elim
theorem row_ne {K : PySem.W.Frag} {H0 G0 H : Hp} {Ls : Nat → List Addr} {S : List Addr} {Γ : Ev} {σ : L2.St} {ds es : List Dt} {p : Nat} {a b : Addr} {vs : List V} (I : SIw K H0 G0 O Ls S Γ σ H) (hΓ : Γ[i]? = some (some (.lst ds))) (hn : lv O i = n + 2) (hp : ds[p]? = some (.lst es))
    (hσ : σ[i]? = some (some (.ref a))) (hH : H a = some (.lst vs)) (hb : vs[p]? = some (.ref b)) : b ≠ a := by
  obtain ⟨v, h1, h2⟩ := I.rep i _ hΓ
  rw [hn] at h2
  obtain ⟨a', vs', L', rfl, e2, e3, q⟩ := h2
  rw [hσ] at h1
  cases h1
  rw [hH] at e2
  cases e2
  obtain ⟨A, M, B, u, e, rfl, h3, h4, h5, _, _⟩ := Ows.split (List.getElem?_eq_some_iff.mp hp).1 q
  rw [hp] at h3
  cases h3
  rw [hb] at h4
  cases h4
  obtain ⟨b', ws, M', e5, _, f3, _⟩ := h5
  cases e5
  have nd := I.nd i
  rw [e3, f3] at nd
  obtain ⟨na, _⟩ := List.nodup_cons.mp nd
  exact fun z => na (by rw [← z]; simp)
theorem row_items {K : PySem.W.Frag} {H0 G0 H : Hp} {Ls : Nat → List Addr} {S : List Addr} {Γ : Ev} {σ : L2.St} {ds es : List Dt} {p : Nat} {a b : Addr} {vs ws : List V} (I : SIw K H0 G0 O Ls S Γ σ H) (hΓ : Γ[i]? = some (some (.lst ds))) (hp : ds[p]? = some (.lst es))
    (hσ : σ[i]? = some (some (.ref a))) (hH : H a = some (.lst vs)) (hb : vs[p]? = some (.ref b)) (hHb : H b = some (.lst ws)) : Rps K (Vw H0 G0 [] H) es ws := by
  obtain ⟨v, h1, r⟩ := I.all.at_ i _ hΓ
  rw [hσ] at h1
  cases h1
  obtain ⟨a', vs', e, g, r⟩ := r
  cases e
  have e1 := Vw.same _ _ g
  rw [hH] at e1
  cases e1
  obtain ⟨u, h2, r2⟩ := r.get hp
  rw [hb] at h2
  cases h2
  obtain ⟨b', ws', e, g2, r3⟩ := r2
  cases e
  have e2 := Vw.same _ _ g2
  rw [hHb] at e2
  cases e2
  exact r3
theorem ds_popApp (hO : lv O i = n + 2) (h : PE X e (tBM X.K "list" rAppend (tOp (rIx X.K) (tVar i) (tD X.K cm (WE W) 0 m1)) (tCons (tBM0 X.K "list" rPop (tOp (rIx X.K) (tVar i) (tD X.K cm (WE W) 0 m2))) tNil))) (hs : swapsWith e none pos.line X.env = pure false := by rfl) : DS X cm W nr O O (.Expr e pos) (sPopApp i m1 m2) := by
  refine PS.of (ps_expr h hs) fun D σ H ⟨H0, G0, Γ, ⟨Ls, S, I⟩, po⟩ => ?_
  obtain ⟨ds, hΓ, po⟩ := onL_po po
  obtain ⟨a, vs0, hσ0, hH0, hlen0, _⟩ := I.top (ds' := ds) (n := n + 1) hΓ hO List.nodup_nil nil_fr
  refine ⟨.ref a, hσ0, ?_⟩
  refine tD_S I po fun j1 u1 H2 hh2 po2 _ hj1 => ?_
  have I2 := I.grow hh2
  obtain ⟨z1, p1, es1, rfl, hp1, hes1, po2⟩ := onR_po po2
  obtain ⟨a1, vs, b1, ws1, hσ1, hH1, hlen1, hb1, hHb1, hwl1, _, _⟩ := I2.row (es' := es1) hΓ hO hes1
  rw [hσ0] at hσ1
  cases hσ1
  rw [hj1 z1 rfl]
  refine row_ix hO (H0 := H0) (G0 := G0) (Ls := Ls) (S := S) (Γ := Γ) hσ0 hH1 (by rw [hlen1]; exact hp1) hb1 ?_
  refine ⟨lst_ty hHb1, .ref a, hσ0, ?_⟩
  refine tD_S I2 po2 fun j2 u2 H3 hh3 po3 _ hj2 => ?_
  have I3 := I2.grow hh3
  obtain ⟨z2, p2, es2, rfl, hp2, hes2, po3⟩ := onR_po po3
  obtain ⟨a2, vs2, b2, ws2, hσ2, hH2, hlen2, hb2, hHb2, hwl2, fin, _⟩ := I3.row (es' := es2.dropLast) hΓ hO hes2
  rw [hσ0] at hσ2
  cases hσ2
  have evs : vs2 = vs := by
    have q := hh3 _ _ hH1
    rw [hH2] at q
    cases q; rfl
  subst evs
  rw [hj2 z2 rfl]
  refine row_ix hO (H0 := H0) (G0 := G0) (Ls := Ls) (S := S) (Γ := Γ) hσ0 hH2 (by rw [hlen2]; exact hp2) hb2 ?_
  obtain ⟨d, hd, po3⟩ := lastO_po po3
  obtain ⟨hsc, po3⟩ := ifO_po po3
  obtain ⟨es3, hes3, po3⟩ := rowO_po po3
  obtain ⟨hz, po3⟩ := ifO_po po3
  have hz := of_decide_eq_true hz
  have ri := row_items I3 hΓ hes2 hσ0 hH2 hb2 hHb2
  obtain ⟨y, hy, ry⟩ := ri.get hd
  rw [← hwl2] at hy
  have hne := row_ne I3 hΓ hO hes2 hσ0 hH2 hb2
  obtain ⟨Ls', S', J⟩ := fin ws2.dropLast lop_dropLast
  have hΓ' : (Γ.set i (some (.lst (ds.set p2 (.lst es2.dropLast)))))[i]? = some (some (.lst (ds.set p2 (.lst es2.dropLast)))) := List.getElem?_set_self (List.getElem?_eq_some_iff.mp hΓ).1
  obtain ⟨a3, vs3, b3, ws3, hσ3, hH3, hlen3, hb3, hHb3, hwl3, fin3, _⟩ := J.row (es' := es3 ++ [d]) hΓ' hO hes3
  rw [hσ0] at hσ3
  cases hσ3
  rw [upd_ne (fun z => hne z.symm), hH2] at hH3
  cases hH3
  rw [hb1] at hb3
  cases hb3
  refine ⟨lst_ty hHb2, b2, ws2, y, rfl, rfl, hHb2, hy, ?_⟩
  refine ⟨b1, ws3, y, rfl, rfl, hHb3, by rw [hwl3, sizeLine_eq]; exact hz, ?_⟩
  have z := fin3 (ws3 ++ [y]) (lop_append (rp_ow hsc ry))
  rw [List.set_set] at z
  exact po3 _ _ z
end
end DL

set_option Elab.async false
set_option linter.all false
set_option maxRecDepth 100000
set_option maxHeartbeats 2000000
namespace DL
open PySem PySem.Spec PyProof.Rows L2

/-! ### owned less deep -/
section
variable {K : PySem.W.Frag} {H G : Hp}
def Dn (K : PySem.W.Frag) (H G : Hp) (n : Nat) (d : Dt) (v : V) (L L' : List Addr) : Prop := (∀ a ∈ L', a ∈ L) ∧ (L.Nodup → L'.Nodup) ∧ ∀ G', Same G G' → (∀ a ∈ L, a ∉ L' → ∀ o, H a = some o → G' a = some o) → Ow K H G' n d v L'
theorem ows_down {n : Nat} (ih : ∀ {d : Dt} {v : V} {L : List Addr}, L.Nodup → Ow K H G (n + 1) d v L → ∃ L', Dn K H G n d v L L') : ∀ {ds : List Dt} {vs : List V} {L : List Addr}, L.Nodup → Ows (Ow K H G (n + 1)) ds vs L →
    ∃ L', (∀ a ∈ L', a ∈ L) ∧ L'.Nodup ∧ ∀ G', Same G G' → (∀ a ∈ L, a ∉ L' → ∀ o, H a = some o → G' a = some o) → Ows (Ow K H G' n) ds vs L'
  | [], vs, L, nd, o => ⟨[], (fun a ha => by cases ha), List.nodup_nil, fun G' _ _ => ⟨o.1, rfl⟩⟩
  | d :: ds, vs, L, nd, ⟨v, r, L1, L2, e1, e2, p, q⟩ => by
    subst e1; subst e2
    obtain ⟨n1, n2, n3⟩ := List.nodup_append.mp nd
    obtain ⟨A, a1, a2, a3⟩ := ih n1 p
    obtain ⟨B, b1, b2, b3⟩ := ows_down ih n2 q
    refine ⟨A ++ B, fun a ha => ?_, List.nodup_append.mpr ⟨a2 n1, b2, fun x hx y hy => n3 x (a1 x hx) y (b1 y hy)⟩, fun G' g w => ⟨v, r, A, B, rfl, rfl, a3 G' g fun a ha hn o e => ?_, b3 G' g fun a ha hn o e => ?_⟩⟩
    · rcases List.mem_append.mp ha with ha | ha
      · exact List.mem_append_left _ (a1 a ha)
      · exact List.mem_append_right _ (b1 a ha)
    · exact w a (List.mem_append_left _ ha) (fun z => (List.mem_append.mp z).elim hn fun z => n3 a ha a (b1 a z) rfl) o e
    · exact w a (List.mem_append_right _ ha) (fun z => (List.mem_append.mp z).elim (fun z => n3 a (a1 a z) a ha rfl) hn) o e
theorem ow_down : ∀ {n : Nat} {d : Dt} {v : V} {L : List Addr}, L.Nodup → Ow K H G (n + 1) d v L → ∃ L', Dn K H G n d v L L' := by
  intro n
  induction n with
  | zero =>
    intro d v L nd o
    refine ⟨[], fun a ha => (by cases ha), fun _ => List.nodup_nil, fun G' g w => ?_⟩
    rw [Ow.zero]
    exact ⟨rfl, o.rp g fun a ha o e => w a ha (by simp) o e⟩
  | succ n ih =>
    intro d v L nd o
    have sc : isScal d = true → ∃ L', Dn K H G (n + 1) d v L L' := fun h => by
      obtain ⟨e, _, _⟩ := Ow.scal (m := n + 1) (H' := H) (G' := G) h o
      subst e
      exact ⟨[], fun a ha => (by cases ha), fun _ => List.nodup_nil, fun G' g w => (Ow.scal (m := n + 1) (H' := H) (G' := G') h o).2.1⟩
    cases d with
    | lst ds =>
      obtain ⟨a, vs, L0, rfl, ha, rfl, q⟩ := o
      obtain ⟨na, nd0⟩ := List.nodup_cons.mp nd
      obtain ⟨B, b1, b2, b3⟩ := ows_down ih nd0 q
      refine ⟨a :: B, fun b hb => ?_, fun _ => List.nodup_cons.mpr ⟨fun z => na (b1 a z), b2⟩, fun G' g w => ⟨a, vs, B, rfl, ha, rfl, b3 G' g fun b hb hn o e => w b (List.mem_cons_of_mem _ hb) (fun z => ?_) o e⟩⟩
      · rcases List.mem_cons.mp hb with rfl | hb
        · exact List.mem_cons_self
        · exact List.mem_cons_of_mem _ (b1 b hb)
      · rcases List.mem_cons.mp z with rfl | z
        · exact na hb
        · exact hn z
    | tup ds =>
      obtain ⟨a, vs, L0, rfl, ha, rfl, q⟩ := o
      obtain ⟨na, nd0⟩ := List.nodup_cons.mp nd
      obtain ⟨B, b1, b2, b3⟩ := ows_down ih nd0 q
      refine ⟨a :: B, fun b hb => ?_, fun _ => List.nodup_cons.mpr ⟨fun z => na (b1 a z), b2⟩, fun G' g w => ⟨a, vs, B, rfl, ha, rfl, b3 G' g fun b hb hn o e => w b (List.mem_cons_of_mem _ hb) (fun z => ?_) o e⟩⟩
      · rcases List.mem_cons.mp hb with rfl | hb
        · exact List.mem_cons_self
        · exact List.mem_cons_of_mem _ (b1 b hb)
      · rcases List.mem_cons.mp z with rfl | z
        · exact na hb
        · exact hn z
    | scr ns =>
      refine ⟨[], fun a ha => (by cases ha), fun _ => List.nodup_nil, fun G' g w => ⟨rfl, ?_⟩⟩
      exact (show Rp K G (.scr ns) v from o.2).mono g
    | non => exact sc rfl
    | bl b => exact sc rfl
    | int i => exact sc rfl
end
theorem Post.down {K : PySem.W.Frag} {cm : Nat → Value} {E : XK} {n : Nat} {H G : Hp} {r : Res Dt} {Q : VK} (po : Post K cm E n H G r Q) : Post K cm E (n + 1) H G r Q := by
  cases r with
  | bad => exact po
  | exc c => exact po
  | ok d =>
    intro v H' G' L st nd fr ow
    obtain ⟨L', d1, d2, d3⟩ := ow_down nd ow
    let G2 : Hp := fun a => if a ∈ L ∧ a ∉ L' then H' a else G' a
    have g : Same G' G2 := fun a o e => by
      show (if a ∈ L ∧ a ∉ L' then H' a else G' a) = some o
      rw [if_neg fun z => by rw [(fr a z.1).2] at e; cases e]
      exact e
    have st2 : Stp H G H' G2 := st.view g (fun a o e => by
      have e' : (if a ∈ L ∧ a ∉ L' then H' a else G' a) = some o := e
      split at e'
      · exact e'
      · exact st.s _ _ e') fun p o e => by
        have e' : (if p ∈ L ∧ p ∉ L' then H' p else G' p) = some o := e
        split at e'
        · rename_i z; exact .inr (fr p z.1).1
        · exact .inl ⟨o, e'⟩
    refine po v H' G2 L' st2 (d2 nd) (fun a ha => ⟨(fr a (d1 a ha)).1, ?_⟩) (d3 G2 g fun a ha hn o e => ?_)
    · show (if a ∈ L ∧ a ∉ L' then H' a else G' a) = none
      rw [if_neg fun z => z.2 ha]
      exact (fr a (d1 a ha)).2
    · show (if a ∈ L ∧ a ∉ L' then H' a else G' a) = some o
      rw [if_pos ⟨ha, hn⟩]
      exact e
theorem de_down {X : Cx} {cm : Nat → Value} {E : L2.St → XK} {n : Nat} {e : Expr} {m : Mr} (h : DE X cm E (n + 1) e m) : DE X cm E n e m := PE.of h fun σ H Q ⟨G, Γ, s, ev, po⟩ => ⟨G, Γ, s, ev, po.down⟩
/-- an item of an owned list -/
theorem de_ixO {X : Cx} {cm : Nat → Value} {E : L2.St → XK} {n : Nat} {a b : Expr} {ma mb : Mr} {pos : Pos} (ha : DE X cm E (n + 1) a ma) (hb : DE X cm E 0 b mb) (hs : PlainIx b := by exact fun _ _ => rfl) : DE X cm E n (.Subscript a b pos) (mBin fIx ma mb) := by
  refine PE.of (pe_ix ix_seq ha hb hs) fun σ H Q ⟨G, Γ, s, ev, po⟩ => ⟨G, Γ, s, ev, ?_⟩
  unfold mBin at po
  cases hx : ma Γ with
  | bad => rw [hx] at po; exact po.elim
  | exc c => rw [hx] at po; exact po
  | ok x =>
    rw [hx, Res.bind_ok] at po
    intro v H1 G1 L st nd fr ow
    refine ⟨G1, Γ, st.s, ev.mono st.g, ?_⟩
    cases hy : mb Γ with
    | bad => rw [hy] at po; exact po.elim
    | exc c => rw [hy] at po; exact fun H' s' => po H' (st.h.trans s')
    | ok y =>
      rw [hy, Res.bind_ok] at po
      intro v2 H2 G2 L2 st2 _ _ ow2
      rw [Ow.zero] at ow2
      cases x with
      | lst ds => cases y with
        | int i =>
          have po' : Post X.K cm (E σ) n H G (match atI ds i with | some d => .ok d | none => .bad) Q := po
          cases hd : atI ds i with
          | none => rw [hd] at po'; exact po'.elim
          | some d =>
            rw [hd] at po'
            obtain ⟨a0, vs, L0, rfl, h0, rfl, q⟩ := ow
            obtain ⟨na, nd0⟩ := List.nodup_cons.mp nd
            have hl := Ows.length q
            unfold atI at hd
            cases hp : ixN ds.length i with
            | none => rw [hp] at hd; cases hd
            | some p =>
              rw [hp, Option.bind_some] at hd
              obtain ⟨A, M, B, u, e, rfl, h3, h4, h5, _, _⟩ := Ows.split (List.getElem?_eq_some_iff.mp hd).1 q
              rw [hd] at h3
              cases h3
              refine .inl ⟨a0, vs, i, u, rfl, ow2.2, .inl (.inl (st2.h _ _ h0)), by unfold atI; rw [hl, hp]; exact h4, ?_⟩
              have hM : ∀ b ∈ M, b ∈ a0 :: (A ++ M ++ B) := fun b hb => by simp [hb]
              refine po' u H2 G2 M (st.trans st2) (List.nodup_append.mp (List.nodup_append.mp nd0).1).2.1 (fun b hb => ⟨(fr b (hM b hb)).1, ?_⟩) (h5.mono st2.h st2.g)
              obtain ⟨o, e⟩ := Ow.there h5 b hb
              exact apart1 st2 e (fr b (hM b hb)).2
        | _ => exact (show False from po).elim
      | tup ds => cases y with
        | int i =>
          have po' : Post X.K cm (E σ) n H G (match atI ds i with | some d => .ok d | none => .bad) Q := po
          cases hd : atI ds i with
          | none => rw [hd] at po'; exact po'.elim
          | some d =>
            rw [hd] at po'
            obtain ⟨a0, vs, L0, rfl, h0, rfl, q⟩ := ow
            obtain ⟨na, nd0⟩ := List.nodup_cons.mp nd
            have hl := Ows.length q
            unfold atI at hd
            cases hp : ixN ds.length i with
            | none => rw [hp] at hd; cases hd
            | some p =>
              rw [hp, Option.bind_some] at hd
              obtain ⟨A, M, B, u, e, rfl, h3, h4, h5, _, _⟩ := Ows.split (List.getElem?_eq_some_iff.mp hd).1 q
              rw [hd] at h3
              cases h3
              refine .inr (.inl ⟨a0, vs, i, u, rfl, ow2.2, .inl (.inl (st2.h _ _ h0)), by unfold atI; rw [hl, hp]; exact h4, ?_⟩)
              have hM : ∀ b ∈ M, b ∈ a0 :: (A ++ M ++ B) := fun b hb => by simp [hb]
              refine po' u H2 G2 M (st.trans st2) (List.nodup_append.mp (List.nodup_append.mp nd0).1).2.1 (fun b hb => ⟨(fr b (hM b hb)).1, ?_⟩) (h5.mono st2.h st2.g)
              obtain ⟨o, e⟩ := Ow.there h5 b hb
              exact apart1 st2 e (fr b (hM b hb)).2
        | _ => exact (show False from po).elim
      | scr ns => cases y with
        | int i =>
          obtain ⟨_, a0, rfl, g0⟩ := ow
          have po' : Post X.K cm (E σ) n H G (match atI ns i with | some d => .ok (.int d) | none => .bad) Q := po
          cases hd : atI ns i with
          | none => rw [hd] at po'; exact po'.elim
          | some d =>
            rw [hd] at po'
            refine .inl ⟨a0, ns.map V.int, i, .int d, rfl, ow2.2, (st.s.trans st2.h).seq g0, ?_, ?_⟩
            · rw [atI_map, hd]; rfl
            · exact po' (.int d) H2 G2 [] (st.trans st2) List.nodup_nil (fun b hb => by cases hb) (rp_ow (G := G2) rfl rfl)
        | _ => exact (show False from po).elim
      | _ => exact (show False from po).elim
end DL

set_option Elab.async false
set_option linter.all false
set_option maxRecDepth 100000
set_option maxHeartbeats 1000000
namespace DL
open PySem PySem.Spec PyProof.Rows L2

/-! ### evaluating mirrors -/
theorem e_var {i : Nat} {Γ : Ev} : mVar i Γ = match Γ[i]? with
  | some (some d) => .ok d
  | _ => .bad := rfl
theorem e_c {d : Dt} {Γ : Ev} : mC d Γ = .ok d := rfl
theorem e_bin {f : Dt → Dt → Res Dt} {a b : Mr} {Γ : Ev} : mBin f a b Γ = (a Γ).bind fun x => (b Γ).bind fun y => f x y := rfl
theorem e_un {f : Dt → Res Dt} {a : Mr} {Γ : Ev} : mUn f a Γ = (a Γ).bind f := rfl
theorem e_seq {a b : Ms} {Γ : Ev} : mSeq a b Γ = thenO (a Γ) b := rfl
theorem e_sT {i k : Nat} {m : Mr} {Γ : Ev} : sT i k m Γ = toOut (m Γ) fun d => if deep k d = true then .nx (Γ.set i (some d)) else .bad := rfl
theorem e_sP {i : Nat} {O : List Nat} {m : Mr} {Γ : Ev} : sP O i m Γ = toOut (m (mask O Γ)) fun d => .nx (Γ.set i (some d)) := rfl
theorem e_ret {m : Mr} {Γ : Ev} : sRet m Γ = toOut (m Γ) fun d => .ret d := rfl
theorem e_cons {m : Mr} {ms : Ev → Res (List Dt)} {Γ : Ev} : mCons m ms Γ = (m Γ).bind fun d => (ms Γ).bind fun ds => .ok (d :: ds) := rfl
theorem e_nil {Γ : Ev} : mNil Γ = .ok [] := rfl
theorem e_call {f : List Dt → Res Dt} {ms : Ev → Res (List Dt)} {Γ : Ev} : mCall f ms Γ = (ms Γ).bind f := rfl
theorem e_test {m : Mr} {Γ : Ev} : mTest m Γ = toB (m Γ) := rfl
theorem e_fn {mf : List Dt → Res Dt} {k : Nat} {ms : Ev → Res (List Dt)} {Γ : Ev} : mFnN mf k ms Γ = (ms Γ).bind fun ds => guardR (decide (ds.length = k)) (noX (mf ds)) := rfl
theorem e_fnx {mf : List Dt → Res Dt} {k : Nat} {ms : Ev → Res (List Dt)} {Γ : Ev} : mFn mf k ms Γ = (ms Γ).bind fun ds => guardR (decide (ds.length = k)) (mf ds) := rfl
theorem toB_bl {b : Bool} : toB (.ok (.bl b)) = .ok b := rfl
theorem e_lst {ms : Ev → Res (List Dt)} {Γ : Ev} : mLst ms Γ = (ms Γ).bind fun ds => guardR (decide (ds.length ≤ 16777216)) (.ok (.lst ds)) := rfl
theorem deep_int {k : Nat} {i : Int} : deep k (.int i) = true := by cases k <;> rfl
theorem deep_bl {k : Nat} {i : Bool} : deep k (.bl i) = true := by cases k <;> rfl
theorem add_ok (x y : Int) : fAdd (.int x) (.int y) = .ok (.int (x + y)) := rfl
theorem sub_ok (x y : Int) : fSub (.int x) (.int y) = .ok (.int (x - y)) := rfl
theorem mul_ok {x y : Int} (h : -(2 ^ 64) < x ∧ x < 2 ^ 64 ∨ -(2 ^ 64) < y ∧ y < 2 ^ 64) : fMul (.int x) (.int y) = .ok (.int (x * y)) := by
  show guardR (small64 x || small64 y) _ = _
  have e : (small64 x || small64 y) = true := by
    unfold small64
    rcases h with h | h
    · rw [decide_eq_true h.1, decide_eq_true h.2]; rfl
    · rw [decide_eq_true h.1, decide_eq_true h.2, Bool.or_comm]; rfl
  rw [e]; rfl
theorem div_ok {x y : Int} (h : 0 < y ∧ y < 1073741824) : fDiv (.int x) (.int y) = .ok (.int (x / y)) := by
  show guardR (decide (0 < y) && decide (y < 1073741824)) _ = _
  rw [decide_eq_true h.1, decide_eq_true h.2]; rfl
theorem mod_ok {x y : Int} (h : 0 < y) : fMod (.int x) (.int y) = .ok (.int (x % y)) := by
  show guardR (decide (0 < y)) _ = _
  rw [decide_eq_true h]; rfl
theorem lt_ok (x y : Int) : fLt (.int x) (.int y) = .ok (.bl (decide (x < y))) := rfl
theorem le_ok (x y : Int) : fLe (.int x) (.int y) = .ok (.bl (decide (x ≤ y))) := rfl
theorem gt_ok (x y : Int) : fGt (.int x) (.int y) = .ok (.bl (decide (y < x))) := rfl
/-- a list of ints, by its place -/
theorem ix_ints {ns : List Int} {i : Int} (h0 : 0 ≤ i) (h : i < ns.length) : fIx (.lst (ns.map Dt.int)) (.int i) = .ok (.int (ns.getD i.toNat 0)) := by
  obtain ⟨k, rfl⟩ := Int.eq_ofNat_of_zero_le h0
  have hk : k < ns.length := by omega
  refine fIx_lst (atI_nat ?_)
  rw [List.getElem?_map, List.getElem?_eq_getElem hk, Int.toNat_natCast, List.getD_eq_getElem?_getD, List.getElem?_eq_getElem hk]; rfl
/-- loops with an invariant -/
theorem loop_inv {slots : List Nat} {mb : Ms} {P : Nat → Ev → Prop} : ∀ (rows : List (List Dt)) (k : Nat) (Γ : Ev), P k Γ → (∀ i r Γ, rows[i]? = some r → P (k + i) Γ → ∃ Γ', mb (bindAll Γ slots r) = .nx Γ' ∧ P (k + i + 1) Γ') → ∃ Γ', loopL slots mb Γ rows = .nx Γ' ∧ P (k + rows.length) Γ'
  | [], k, Γ, h, _ => ⟨Γ, rfl, h⟩
  | r :: rows, k, Γ, h, step => by
    obtain ⟨Γ1, e1, h1⟩ := step 0 r Γ rfl h
    obtain ⟨Γ2, e2, h2⟩ := loop_inv rows (k + 1) Γ1 h1 fun i r' Γ' hi hp => by
      have := step (i + 1) r' Γ' (by simpa using hi) (by rw [show k + (i + 1) = k + 1 + i by omega]; exact hp)
      rw [show k + (i + 1) + 1 = k + 1 + i + 1 by omega] at this
      exact this
    refine ⟨Γ2, ?_, ?_⟩
    · show thenO (mb (bindAll Γ slots r)) _ = _
      rw [e1]; exact e2
    · rw [List.length_cons, show k + (rows.length + 1) = k + 1 + rows.length by omega]; exact h2
theorem e_rg {ma mb : Mr} {Γ : Ev} {a b : Int} (h1 : ma Γ = .ok (.int a)) (h2 : mb Γ = .ok (.int b)) (ha : -1000000 ≤ a ∧ a ≤ 1000000) (hb : -1000000 ≤ b ∧ b ≤ 1000000) : mIRg ma mb Γ = .ok ((rgD a b).map fun k => one (.int k)) := by
  unfold mIRg
  rw [h1, Res.bind_ok, h2, Res.bind_ok]
  have e : (okR a && okR b) = true := by
    unfold okR
    rw [decide_eq_true (show -(2 ^ 62) ≤ a by omega), decide_eq_true (show a < 2 ^ 62 by omega), decide_eq_true (show -(2 ^ 62) ≤ b by omega), decide_eq_true (show b < 2 ^ 62 by omega)]
    rfl
  show guardR (okR a && okR b) _ = _
  rw [e]; rfl
/-- for k in range(n) -/
theorem for_rg {O : List Nat} {ma mb : Mr} {j : Nat} {body : Ms} {Γ : Ev} {n : Nat} {P : Nat → Ev → Prop} (hn : n ≤ 1000000) (h1 : ma (mask O Γ) = .ok (.int 0)) (h2 : mb (mask O Γ) = .ok (.int n)) (h0 : P 0 Γ)
    (step : ∀ k Γ, k < n → P k Γ → ∃ Γ', body (Γ.set j (some (.int k))) = .nx Γ' ∧ P (k + 1) Γ') : ∃ Γ', sFor O (mIRg ma mb) [j] body Γ = .nx Γ' ∧ P n Γ' := by
  unfold sFor
  rw [e_rg h1 h2 (by omega) (by omega)]
  have hl : ((rgD 0 n).map fun k => one (.int k)).length = n := by rw [List.length_map, rgD_length]; omega
  obtain ⟨Γ', e, h⟩ := loop_inv (slots := [j]) (mb := body) (P := P) ((rgD 0 n).map fun k => one (.int k)) 0 Γ h0 fun i r Γ hi hp => by
    rw [List.getElem?_map] at hi
    obtain ⟨z, hz, rfl⟩ := Option.map_eq_some_iff.mp hi
    have hlt : i < n := by
      have := (List.getElem?_eq_some_iff.mp hz).1
      rw [rgD_length] at this; omega
    rw [rgD_get (by omega)] at hz
    cases hz
    rw [Nat.zero_add] at hp ⊢
    obtain ⟨Γ', e, h⟩ := step i Γ hlt hp
    exact ⟨Γ', by rw [show bindAll Γ [j] (one (.int (0 + (i : Int)))) = Γ.set j (some (.int i)) by rw [Int.zero_add]; rfl]; exact e, h⟩
  rw [hl, Nat.zero_add] at h
  exact ⟨Γ', e, h⟩
/-- comprehensions -/
theorem lcL_map {slots : List Nat} {me : Mr} {Γ : Ev} {g : Nat → Dt} : ∀ (rows : List (List Dt)) (k : Nat), (∀ i r, rows[i]? = some r → me (bindAll Γ slots r) = .ok (g (k + i))) → lcL slots bYes me Γ rows = .ok ((List.range' k rows.length).map g)
  | [], k, _ => rfl
  | r :: rows, k, h => by
    have h0 := h 0 r rfl
    have ih := lcL_map (me := me) (Γ := Γ) (g := g) rows (k + 1) fun i r' hi => by
      rw [show k + 1 + i = k + (i + 1) by omega]
      exact h (i + 1) r' (by simpa using hi)
    rw [List.length_cons, List.range'_succ, List.map_cons]
    unfold lcL
    show (noX (bYes (bindAll Γ slots r))).bind _ = _
    simp only [bYes, noX_ok, Res.bind_ok]
    rw [h0]
    simp only [noX_ok, Res.bind_ok, if_true]
    rw [ih]
    rfl
theorem lc_rg {ma mb : Mr} {j : Nat} {me : Mr} {Γ : Ev} {n : Nat} {g : Nat → Dt} (hn : n ≤ 1000000) (h1 : ma Γ = .ok (.int 0)) (h2 : mb Γ = .ok (.int n)) (h : ∀ k : Nat, k < n → me (Γ.set j (some (.int k))) = .ok (g k)) : mLc (mIRg ma mb) [j] bYes me Γ = .ok (.lst ((List.range n).map g)) := by
  unfold mLc
  rw [e_rg h1 h2 (by omega) (by omega), Res.bind_ok]
  have hl : ((rgD 0 n).map fun k => one (.int k)).length = n := by rw [List.length_map, rgD_length]; omega
  rw [decide_eq_true (by rw [hl]; omega), guardR_true, lcL_map (g := g) _ 0 fun i r hi => by
    rw [List.getElem?_map] at hi
    obtain ⟨z, hz, rfl⟩ := Option.map_eq_some_iff.mp hi
    have hlt : i < n := by
      have := (List.getElem?_eq_some_iff.mp hz).1
      rw [rgD_length] at this; omega
    rw [rgD_get (by omega)] at hz
    cases hz
    rw [Nat.zero_add]
    have := h i hlt
    rw [show bindAll Γ [j] (one (.int (0 + (i : Int)))) = Γ.set j (some (.int i)) by rw [Int.zero_add]; rfl]
    exact this]
  rw [hl, ← List.range_eq_range']
  rfl
theorem lcL_list {j : Nat} {me : Mr} {Γ : Ev} {h : Dt → Dt} : ∀ (xs : List Dt), (∀ x ∈ xs, me (Γ.set j (some x)) = .ok (h x)) → lcL [j] bYes me Γ (xs.map one) = .ok (xs.map h)
  | [], _ => rfl
  | x :: xs, hx => by
    have h0 := hx x List.mem_cons_self
    have ih := lcL_list xs fun y hy => hx y (List.mem_cons_of_mem _ hy)
    rw [List.map_cons, List.map_cons]
    unfold lcL
    show (noX (bYes (bindAll Γ [j] (one x)))).bind _ = _
    simp only [bYes, noX_ok, Res.bind_ok]
    rw [show bindAll Γ [j] (one x) = Γ.set j (some x) from rfl, h0]
    simp only [noX_ok, Res.bind_ok, if_true]
    rw [ih]
    rfl
theorem lc_list {m : Mr} {j : Nat} {me : Mr} {Γ : Ev} {xs : List Dt} {h : Dt → Dt} (hm : m Γ = .ok (.lst xs)) (hl : xs.length ≤ 16777216) (hx : ∀ x ∈ xs, me (Γ.set j (some x)) = .ok (h x)) : mLc (mIL m) [j] bYes me Γ = .ok (.lst (xs.map h)) := by
  unfold mLc mIL
  rw [hm, Res.bind_ok]
  show (Res.ok (xs.map one)).bind _ = _
  rw [Res.bind_ok, List.length_map, decide_eq_true hl, guardR_true, lcL_list xs hx]
  rfl
theorem sl_ok {m : Mr} {lo hi : Mo} {Γ : Ev} {ds : List Dt} {l h : Option Int} (h1 : m Γ = .ok (.lst ds)) (h2 : lo Γ = .ok l) (h3 : hi Γ = .ok h) : mSl m lo hi Γ = .ok (.lst (cutD ds l h)) := by
  unfold mSl
  rw [h1, Res.bind_ok, h2, Res.bind_ok, h3, Res.bind_ok]; rfl
def cutG {α : Type} (xs : List α) (lo hi : Option Int) : List α := (xs.drop (HT.sIx xs.length 0 lo)).take (HT.sIx xs.length xs.length hi - HT.sIx xs.length 0 lo)
theorem cut_map {α : Type} (f : α → Dt) (xs : List α) (l h : Option Int) : cutD (xs.map f) l h = (cutG xs l h).map f := by
  unfold cutD cutG
  rw [List.length_map, ← List.map_drop, ← List.map_take]
theorem cutG_nat {α : Type} (xs : List α) (l h : Nat) (h1 : l ≤ h) (h2 : h ≤ xs.length) : cutG xs (some (l : Int)) (some (h : Int)) = (xs.drop l).take (h - l) := by
  unfold cutG
  rw [HT.sIx_nat, HT.sIx_nat, Nat.min_eq_left (show l ≤ xs.length by omega), Nat.min_eq_left h2]
section
variable {a b : Mr} {Γ : Ev} {x y : Int}
theorem ev_add (h1 : a Γ = .ok (.int x)) (h2 : b Γ = .ok (.int y)) : mBin fAdd a b Γ = .ok (.int (x + y)) := (bin_eq h1 h2).trans rfl
theorem ev_sub (h1 : a Γ = .ok (.int x)) (h2 : b Γ = .ok (.int y)) : mBin fSub a b Γ = .ok (.int (x - y)) := (bin_eq h1 h2).trans rfl
theorem ev_mul (h1 : a Γ = .ok (.int x)) (h2 : b Γ = .ok (.int y)) (h : -(2 ^ 64) < x ∧ x < 2 ^ 64 ∨ -(2 ^ 64) < y ∧ y < 2 ^ 64) : mBin fMul a b Γ = .ok (.int (x * y)) := (bin_eq h1 h2).trans (mul_ok h)
theorem ev_div (h1 : a Γ = .ok (.int x)) (h2 : b Γ = .ok (.int y)) (h : 0 < y ∧ y < 1073741824) : mBin fDiv a b Γ = .ok (.int (x / y)) := (bin_eq h1 h2).trans (div_ok h)
theorem ev_mod (h1 : a Γ = .ok (.int x)) (h2 : b Γ = .ok (.int y)) (h : 0 < y) : mBin fMod a b Γ = .ok (.int (x % y)) := (bin_eq h1 h2).trans (mod_ok h)
theorem ev_lt (h1 : a Γ = .ok (.int x)) (h2 : b Γ = .ok (.int y)) : mBin fLt a b Γ = .ok (.bl (decide (x < y))) := (bin_eq h1 h2).trans rfl
theorem ev_le (h1 : a Γ = .ok (.int x)) (h2 : b Γ = .ok (.int y)) : mBin fLe a b Γ = .ok (.bl (decide (x ≤ y))) := (bin_eq h1 h2).trans rfl
theorem ev_gt (h1 : a Γ = .ok (.int x)) (h2 : b Γ = .ok (.int y)) : mBin fGt a b Γ = .ok (.bl (decide (y < x))) := (bin_eq h1 h2).trans rfl
theorem ev_eq (h1 : a Γ = .ok (.int x)) (h2 : b Γ = .ok (.int y)) : mBin fEq a b Γ = .ok (.bl (decide (x = y))) := (bin_eq h1 h2).trans (fEq_int _ _)
theorem ev_ix {ns : List Int} {i : Int} (h1 : a Γ = .ok (.lst (ns.map Dt.int))) (h2 : b Γ = .ok (.int i)) (h0 : 0 ≤ i) (h : i < ns.length) : mBin fIx a b Γ = .ok (.int (ns.getD i.toNat 0)) := (bin_eq h1 h2).trans (ix_ints h0 h)
theorem ev_len {m : Mr} {ds : List Dt} (h : m Γ = .ok (.lst ds)) : mCall fLen (mCons m mNil) Γ = .ok (.int ds.length) := by
  rw [e_call, e_cons, h]; rfl
theorem ev_t {m : Mr} {b : Bool} (h : m Γ = .ok (.bl b)) : mTest m Γ = .ok b := test_eq h
theorem ev_not {m : Ev → Res Bool} {b : Bool} (h : m Γ = .ok b) : bNot m Γ = .ok (!b) := by unfold bNot; rw [h]; rfl
theorem ev_and {m u : Ev → Res Bool} {b c : Bool} (h : m Γ = .ok b) (h2 : b = true → u Γ = .ok c) : bAnd m u Γ = .ok (b && c) := by
  unfold bAnd; rw [h]
  cases b with
  | false => rfl
  | true => rw [Res.bind_ok, if_pos rfl, h2 rfl]; rfl
theorem ev_or {m u : Ev → Res Bool} {b c : Bool} (h : m Γ = .ok b) (h2 : b = false → u Γ = .ok c) : bOr m u Γ = .ok (b || c) := by
  unfold bOr; rw [h]
  cases b with
  | true => rfl
  | false => rw [Res.bind_ok, if_neg (by decide), h2 rfl]; rfl
theorem ev_if {c : Ev → Res Bool} {t : Bool} {p q : Ms} {o : Out} (h : c Γ = .ok t) (h1 : t = true → p Γ = o) (h2 : t = false → q Γ = o) : mIf c p q Γ = o := by
  cases t with
  | true => exact (if_t h).trans (h1 rfl)
  | false => exact (if_f h).trans (h2 rfl)
theorem sIns_nx {i : Nat} {m1 m2 : Mr} {ns : List Int} {z : Int} (hΓ : Γ[i]? = some (some (.lst (ns.map Dt.int)))) (h1 : m1 Γ = .ok (.int z)) (h2 : m2 Γ = .ok (.int x)) (h0 : 0 ≤ z ∧ z < 2 ^ 63) (hl : ns.length < 16777216) :
    sIns i m1 m2 Γ = .nx (Γ.set i (some (.lst ((ns.take z.toNat ++ x :: ns.drop z.toNat).map Dt.int)))) := by
  unfold sIns
  rw [onL_eq hΓ, h1, toOut_ok, h2, toOut_ok]
  show ifO (isScal (.int x) && decide (0 ≤ z) && decide (z < 2 ^ 63) && decide ((ns.map Dt.int).length < 16777216)) _ = _
  rw [decide_eq_true h0.1, decide_eq_true h0.2, List.length_map, decide_eq_true hl]
  simp [isScal, List.map_take, List.map_drop]
/-- an item of a list of anything, by its place -/
theorem ev_at {ds : List Dt} {k : Nat} {d : Dt} (h1 : a Γ = .ok (.lst ds)) (h2 : b Γ = .ok (.int (k : Int))) (h : ds[k]? = some d) : mBin fIx a b Γ = .ok d := (bin_eq h1 h2).trans (fIx_lst (atI_nat h))
end
end DL

set_option Elab.async false
set_option linter.all false
set_option maxRecDepth 100000
set_option maxHeartbeats 2000000
namespace DL
open PySem PySem.Spec PyProof.Rows L2

/-! ### xs.index(y), ints -/
def findIx (x : Int) : List Int → Option Nat
  | [] => none
  | y :: l => if y = x then some 0 else (findIx x l).map (· + 1)
theorem findIx_some {x : Int} : ∀ {l : List Int} {j : Nat}, findIx x l = some j → l[j]? = some x ∧ ∀ (m : Nat) (y : Int), m < j → l[m]? = some y → y ≠ x
  | [], j, h => by cases h
  | z :: l, j, h => by
    unfold findIx at h
    by_cases e : z = x
    · rw [if_pos e] at h
      cases h
      exact ⟨by rw [e]; rfl, fun m y hm _ => by omega⟩
    · rw [if_neg e] at h
      obtain ⟨k, hk, rfl⟩ := Option.map_eq_some_iff.mp h
      obtain ⟨h1, h2⟩ := findIx_some hk
      refine ⟨h1, fun m y hm hy => ?_⟩
      cases m with
      | zero => cases hy; exact e
      | succ m => exact h2 m y (by omega) hy
def fIdx (ds : List Dt) (y : Dt) : Res Dt := match ints? ds, y with
  | some ns, .int i => match findIx i ns with
    | some j => .ok (.int (j : Nat))
    | none => .bad
  | _, _ => .bad
def mIndex (ma mb : Mr) : Mr := fun Γ => (ma Γ).bind fun x => match x with
  | .lst ds => (mb Γ).bind fun y => fIdx ds y
  | _ => .bad
theorem flat_ints : ∀ ns : List Int, (ns.map V.int).all flatV = true
  | [] => rfl
  | n :: ns => by rw [List.map_cons, List.all_cons, flat_ints ns]; rfl
theorem de_index {X : Cx} {cm : Nat → Value} {E : L2.St → XK} {n : Nat} {e : Expr} {ma mb : Mr} (h : PE X e (tBM X.K "list" (rIndex X.K) (tD X.K cm E 0 ma) (tCons (tD X.K cm E 0 mb) tNil))) : DE X cm E n e (mIndex ma mb) := by
  refine PE.of h fun σ H Q ⟨G, Γ, s, ev, po⟩ => ⟨G, Γ, s, ev, ?_⟩
  unfold mIndex at po
  cases hx : ma Γ with
  | bad => rw [hx] at po; exact po.elim
  | exc c => rw [hx] at po; exact po
  | ok x =>
    rw [hx, Res.bind_ok] at po
    intro v H1 G1 L st _ _ ow
    rw [Ow.zero] at ow
    have po1 := po.step st
    cases x with
    | lst ds =>
      obtain ⟨a, us, rfl, ga, q⟩ := ow.2
      refine ⟨.inl ⟨rfl, us, .inl (.inl (st.s _ _ ga))⟩, G1, Γ, st.s, ev.mono st.g, ?_⟩
      dsimp only at po1
      cases hy : mb Γ with
      | bad => rw [hy] at po1; exact po1.elim
      | exc c => rw [hy] at po1; exact po1
      | ok y =>
        rw [hy, Res.bind_ok] at po1
        intro w H2 G2 L2 st2 _ _ ow2
        rw [Ow.zero] at ow2
        have po2 := po1.step st2
        unfold fIdx at po2
        cases hi : ints? ds with
        | none => rw [hi] at po2; exact (show False from po2).elim
        | some ns =>
          rw [hi] at po2
          cases y with
          | int i =>
            dsimp only at po2
            cases hf : findIx i ns with
            | none => rw [hf] at po2; exact (show False from po2).elim
            | some j =>
              rw [hf] at po2
              obtain ⟨h1, h2⟩ := findIx_some hf
              rw [ints?_some hi] at q
              rw [q.ints] at ga
              refine ⟨a, ns.map V.int, .int i, j, .int i, rfl, by rw [show w = _ from ow2.2], .inl (.inl (st2.h _ _ (st.s _ _ ga))), rfl, flat_ints ns, by rw [List.getElem?_map, h1]; rfl, by show (i == i) = true; simp, fun m z hm hz => ?_, po2.scal st2.s rfl rfl⟩
              rw [List.getElem?_map] at hz
              obtain ⟨y, hy, rfl⟩ := Option.map_eq_some_iff.mp hz
              show (y == i) = false
              simpa using h2 m y hm hy
          | _ => exact (show False from po2).elim
    | _ => exact (show False from po1).elim

/-! ### row = x[i]; row[j] = v -/
def sRow2 (i jr : Nat) (m1 mv m2 : Mr) : Ms := fun Γ => ifO (decide (jr < Γ.length)) (onL Γ i fun ds => toOut (m1 Γ) fun j1 => onR ds j1 fun p es => toOut (mv (Γ.set jr none)) fun d => toOut (m2 (Γ.set jr none)) fun j2 => ifO (isScal d)
  (onI j2 fun z => atN es.length z fun q => .nx ((Γ.set jr none).set i (some (.lst (ds.set p (.lst (es.set q d))))))))
section
variable {X : Cx} {cm : Nat → Value} {W : WX} {nr i jr n : Nat} {O : List Nat} {st1 st2 : Stmt} {m1 mv m2 : Mr}
theorem SIw.blind {K : PySem.W.Frag} {H0 G0 H : Hp} {Ls : Nat → List Addr} {S : List Addr} {Γ : Ev} {σ : L2.St} (I : SIw K H0 G0 O Ls S Γ σ H) (hn : Γ[jr]? = some none ∨ Γ[jr]? = none) (x : Option V) : SIw K H0 G0 O Ls S Γ (σ.set jr x) H := by
  refine ⟨I.h0, I.g0, I.own, I.sub, I.nd, I.dj, fun k d e => ?_, by rw [List.length_set]; exact I.len⟩
  have hk : jr ≠ k := fun z => by
    subst z
    rcases hn with h | h <;> rw [h] at e <;> cases e
  rw [List.getElem?_set_ne hk]
  exact I.rep k d e
theorem dss_row2 (hO : lv O i = n + 2) (hij : jr ≠ i) (h1 : PS X st1 (tAsg (tOp (rIx X.K) (tVar i) (tD X.K cm (WE W) 0 m1)) (gName jr))) (h2 : PS X st2 (tAsg (tD X.K cm (WE W) 0 mv) (gSub (tVar jr) (tD X.K cm (WE W) 0 m2) rSetL))) : DSs X cm W nr O O [st1, st2] (sRow2 i jr m1 mv m2) := by
  refine PSs.of (pss_cons h1 (pss_one h2)) fun D σ H ⟨H0, G0, Γ, ⟨Ls, S, I⟩, po⟩ => ?_
  obtain ⟨hlt, po⟩ := ifO_po po
  have hjr : jr < σ.length := by rw [← I.len]; exact of_decide_eq_true hlt
  obtain ⟨ds, hΓ, po⟩ := onL_po po
  obtain ⟨a0, vs0, hσ0, hH0, hlen0, _⟩ := I.top (ds' := ds) (n := n + 1) hΓ hO List.nodup_nil nil_fr
  refine ⟨.ref a0, hσ0, ?_⟩
  refine tD_S I po fun j1 u1 H1 hh1 po1 _ hj1 => ?_
  have I1 := I.grow hh1
  obtain ⟨z1, p, es, rfl, hp, hes, po1⟩ := onR_po po1
  obtain ⟨a, vs, b, ws, hσ, hH, hlen, hb, hHb, hwl, _, _⟩ := I1.row (es' := es) hΓ hO hes
  rw [hσ0] at hσ
  cases hσ
  rw [hj1 z1 rfl]
  refine row_ix hO (H0 := H0) (G0 := G0) (Ls := Ls) (S := S) (Γ := Γ) hσ0 hH (by rw [hlen]; exact hp) hb ?_
  have gn : ∀ (σ' : L2.St), σ' = σ.set jr (some (.ref b)) → tAsg (tD X.K cm (WE W) 0 mv) (gSub (tVar jr) (tD X.K cm (WE W) 0 m2) rSetL) D σ' H1 := by
    intro σ' eσ
    have hΓ' : (Γ.set jr none)[i]? = some (some (.lst ds)) := by rw [List.getElem?_set_ne hij]; exact hΓ
    have J : SIw X.K H0 G0 O (fun k => if k = jr then [] else Ls k) S (Γ.set jr none) (σ.set jr (some (.ref b))) H1 := by
      refine (I1.drop jr).blind (jr := jr) ?_ _
      by_cases hlt : jr < Γ.length
      · exact .inl (List.getElem?_set_self hlt)
      · exact .inr (List.getElem?_eq_none (by rw [List.length_set]; omega))
    subst eσ
    refine tD_S J po1 fun d v H2 hh2 po2 hv _ => ?_
    have J2 := J.grow hh2
    have hσi : (σ.set jr (some (.ref b)))[i]? = some (some (.ref a0)) := by rw [List.getElem?_set_ne hij]; exact hσ0
    refine ⟨.ref b, List.getElem?_set_self hjr, ?_⟩
    refine tD_S J2 po2 fun j2 u2 H3 hh3 po3 _ hj2 => ?_
    obtain ⟨hd, po3⟩ := ifO_po po3
    obtain ⟨z2, rfl, po3⟩ := onI_po po3
    obtain ⟨q, hq, po3⟩ := atN_po po3
    have J3 := J2.grow hh3
    obtain ⟨a', vs', b', ws', hσ', hH', hlen', hb', hHb', hwl', fin, _⟩ := J3.row (es' := es.set q d) hΓ' hO hes
    rw [hσi] at hσ'
    cases hσ'
    rw [hh3 _ _ (hh2 _ _ hH)] at hH'
    cases hH'
    rw [hb] at hb'
    cases hb'
    rw [hh3 _ _ (hh2 _ _ hHb)] at hHb'
    cases hHb'
    exact ⟨b, ws, z2, q, rfl, hj2 z2 rfl, hh3 _ _ (hh2 _ _ hHb), by rw [hwl]; exact hq, po3 _ _ (fin (ws.set q v) (lop_set (ixN_seq hq).2.1 (rp_ow hd ((hv hd).mono hh3))))⟩
  exact gn _ rfl
end
end DL

set_option Elab.async false
set_option linter.all false
set_option maxRecDepth 100000
set_option maxHeartbeats 2000000
namespace DL
open PySem PySem.Spec PyProof.Rows L2

/-! ### x[i] = f(x[j], e), x owned, its items shared -/
def itO (ds : List Dt) (p : Nat) (f : Dt → Out) : Out := match ds[p]? with
  | some d => f d
  | none => .bad
def sSetF (i : Nat) (mf : List Dt → Res Dt) (m1 m2 m3 : Mr) : Ms := fun Γ => onL Γ i fun ds => toOut (m1 Γ) fun j => onI j fun z => atN ds.length z fun p => itO ds p fun d => toOut (m2 Γ) fun d2 => ifO (isScal d2)
  (toOut (noX (mf [d, d2])) fun r => toOut (m3 Γ) fun j3 => onI j3 fun z3 => atN ds.length z3 fun q => .nx (Γ.set i (some (.lst (ds.set q r)))))
section
variable {X : Cx} {cm : Nat → Value} {W : WX} {nr i : Nat} {O : List Nat} {st : Stmt} {mf : List Dt → Res Dt} {m1 m2 m3 : Mr}
theorem itO_po {K : PySem.W.Frag} {H0 G0 : Hp} {ds : List Dt} {p : Nat} {f : Dt → Out} {D : Ends} (po : SPost K cm W nr H0 G0 O (itO ds p f) D) : ∃ d, ds[p]? = some d ∧ SPost K cm W nr H0 G0 O (f d) D := by
  unfold itO at po
  split at po
  · rename_i d h; exact ⟨d, h, po⟩
  · exact po.elim
theorem ds_setF (hO : lv O i = 1) (h : PS X st (tAsg (tCall (spD X.K cm 2 0 mf) [] E0 (tCons (tOp (rIx X.K) (tVar i) (tD X.K cm (WE W) 0 m1)) (tCons (tD X.K cm (WE W) 0 m2) tNil))) (gSub (tVar i) (tD X.K cm (WE W) 0 m3) rSetL))) : DS X cm W nr O O st (sSetF i mf m1 m2 m3) := by
  refine PS.of h fun D σ H ⟨H0, G0, Γ, ⟨Ls, S, I⟩, po⟩ => ?_
  obtain ⟨ds, hΓ, po⟩ := onL_po po
  obtain ⟨a0, vs0, hσ0, hH0, hlen0, _⟩ := I.top (ds' := ds) (n := 0) hΓ hO List.nodup_nil nil_fr
  refine ⟨.ref a0, hσ0, ?_⟩
  refine tD_S I po fun j u H1 hh1 po1 _ hj => ?_
  have I1 := I.grow hh1
  obtain ⟨z, rfl, po1⟩ := onI_po po1
  obtain ⟨p, hp, po1⟩ := atN_po po1
  obtain ⟨d, hd, po1⟩ := itO_po po1
  obtain ⟨v0, hv0, ow0⟩ := I1.rep i _ hΓ
  rw [hO] at ow0
  obtain ⟨a, vs, L', rfl, hH, hL, os⟩ := ow0
  rw [hσ0] at hv0
  cases hv0
  obtain ⟨_, rs⟩ := Ows.zero_of os
  obtain ⟨v, hv, rv⟩ := rs.get hd
  have hlen := rs.length
  rw [hj z rfl]
  refine .inl ⟨a0, vs, z, v, rfl, rfl, .inl (.inl hH), by unfold atI; rw [hlen, hp]; exact hv, ?_⟩
  refine tD_S I1 po1 fun d2 v2 H2 hh2 po2 hv2 _ => ?_
  obtain ⟨hsc, po2⟩ := ifO_po po2
  have I2 := I1.grow hh2
  have sv : Same (Vw H0 G0 S H1) (Vw H0 G0 S H2) := Vw.mono hh2 fun a q _ => q
  refine ⟨[d, d2], Vw H0 G0 S H2, rfl, Vw.same, ⟨v, [v2], rfl, rv.mono sv, v2, [], rfl, ?_, rfl⟩, ?_⟩
  · have r := hv2 hsc
    cases d2 with
    | non => exact r
    | bl b => exact r
    | int k => exact r
    | _ => simp [isScal] at hsc
  · cases hr : mf [d, d2] with
    | bad => rw [hr] at po2; exact (show False from po2).elim
    | exc c => rw [hr] at po2; exact (show False from po2).elim
    | ok r =>
      rw [hr] at po2
      have po3 : SPost X.K cm W nr H0 G0 O (toOut (m3 Γ) fun j3 => onI j3 fun z3 => atN ds.length z3 fun q => .nx (Γ.set i (some (.lst (ds.set q r))))) D := po2
      intro v' H' G' L st nd fr ow
      rw [Ow.zero] at ow
      obtain ⟨rfl, rp⟩ := ow
      have gv : Same G' (Vw H0 G0 ([] ++ S) H') := view_P I2 st fr
      have hh3 : Same H2 H' := st.h
      have I3 := I2.grow hh3
      obtain ⟨a3, vs3, hσ3, hH3, hlen3, _⟩ := I3.top (ds' := ds) (n := 0) hΓ hO List.nodup_nil nil_fr
      refine ⟨.ref a3, hσ3, ?_⟩
      refine tD_S I3 po3 fun j3 u3 H4 hh4 po4 _ hj3 => ?_
      obtain ⟨z3, rfl, po4⟩ := onI_po po4
      obtain ⟨q, hq, po4⟩ := atN_po po4
      obtain ⟨a', vs', hσ', hH', hlen', fin, haS, haL⟩ := (I3.grow hh4).top (ds' := ds.set q r) (n := 0) hΓ hO List.nodup_nil nil_fr
      rw [hσ3] at hσ'
      cases hσ'
      refine ⟨a3, vs', z3, q, rfl, hj3 z3 rfl, hH', by rw [hlen']; exact hq, po4 _ _ (fin (vs'.set q v') (lop_set (ixN_seq hq).2.1 ?_))⟩
      rw [Ow.zero]
      exact ⟨rfl, rp.mono (gv.trans (Vw.mono hh4 fun a q _ => q))⟩
end
end DL

set_option Elab.async false
set_option linter.all false
set_option maxRecDepth 100000
set_option maxHeartbeats 2000000
namespace DL
open PySem PySem.Spec PyProof.Rows L2

/-! ### a def that calls itself: its mirror with no fuel promises nothing -/
theorem fn_bad {P : Program} {w : World} {K : PySem.W.Frag} {mg : Str → Option Value} {base : Heap} {cm : Nat → Value} {k j nr : Nat} {f : Addr} {fd : FuncData} {ps : List Str} (h : ps.length = k) : FnOk P w K mg base (L2.CX P w) j f fd ps (spD K cm k nr fun _ => .bad) :=
  ⟨fun vs H Q E q => by rw [sp_len q, h], fun A outer s H args us vs Q E hr e0 hb hv q => by
    obtain ⟨ds, G, _, _, _, po⟩ := q
    exact (show False from po).elim⟩
end DL

set_option Elab.async false
set_option linter.all false
set_option maxRecDepth 100000
set_option maxHeartbeats 4000000
namespace DL
open PySem PySem.Spec PyProof.Rows L2

/-! ### return sorted([x for x in y if ..]), y owned: its items go along -/
def fltR (mt : Ev → Res Bool) (j : Nat) (Γ : Ev) : List Dt → Res (List Bool)
  | [] => .ok []
  | d :: ds => (noX (mt (Γ.set j (some d)))).bind fun b => (fltR mt j Γ ds).bind fun bs => .ok (b :: bs)
def keepB {α : Type} : List α → List Bool → List α
  | x :: xs, b :: bs => if b = true then x :: keepB xs bs else keepB xs bs
  | _, _ => []
theorem keepB_nil {α : Type} (xs : List α) : keepB xs [] = [] := by cases xs <;> rfl
theorem keepB_map {α β : Type} (f : α → β) : ∀ (xs : List α) (bs : List Bool), keepB (xs.map f) bs = (keepB xs bs).map f
  | [], bs => by cases bs <;> rfl
  | x :: xs, [] => rfl
  | x :: xs, b :: bs => by
    rw [List.map_cons, keepB, keepB, keepB_map f xs bs]
    cases b <;> rfl
theorem keepB_take {α : Type} : ∀ {xs : List α} {bs : List Bool} {i : Nat} {x : α} {b : Bool}, xs[i]? = some x → bs[i]? = some b → keepB (xs.take (i + 1)) (bs.take (i + 1)) = keepB (xs.take i) (bs.take i) ++ (if b = true then [x] else [])
  | [], _, _, _, _, h, _ => by simp at h
  | _ :: _, [], _, _, _, _, h => by simp at h
  | y :: xs, c :: bs, 0, x, b, h, h2 => by
    cases h; cases h2
    simp [keepB, keepB_nil]
  | y :: xs, c :: bs, i + 1, x, b, h, h2 => by
    have ih := keepB_take (xs := xs) (bs := bs) (i := i) (x := x) (b := b) h h2
    rw [List.take_succ_cons, List.take_succ_cons, List.take_succ_cons, List.take_succ_cons, keepB, keepB, ih]
    cases c <;> rfl
theorem fltR_get {mt : Ev → Res Bool} {j : Nat} {Γ : Ev} : ∀ {ds : List Dt} {fl : List Bool}, fltR mt j Γ ds = .ok fl → fl.length = ds.length ∧ ∀ (i : Nat) (d : Dt), ds[i]? = some d → ∃ b : Bool, fl[i]? = some b ∧ mt (Γ.set j (some d)) = .ok b
  | [], fl, h => by cases h; exact ⟨rfl, fun i d e => by simp at e⟩
  | d :: ds, fl, h => by
    unfold fltR at h
    obtain ⟨b, hb, h⟩ := noX_inv h
    obtain ⟨bs, hbs, h⟩ := bind_inv h
    cases h
    obtain ⟨h1, h2⟩ := fltR_get hbs
    refine ⟨by rw [List.length_cons, List.length_cons, h1], fun i d' e => ?_⟩
    cases i with
    | zero => cases e; exact ⟨b, rfl, hb⟩
    | succ i => exact h2 i d' e
theorem rps_keep {K : PySem.W.Frag} {G : Hp} : ∀ {ds : List Dt} {vs : List V} (bs : List Bool), Rps K G ds vs → Rps K G (keepB ds bs) (keepB vs bs)
  | [], vs, bs, r => by rw [show vs = [] from r]; cases bs <;> rfl
  | d :: ds, vs, [], r => by rw [keepB_nil, keepB_nil]; rfl
  | d :: ds, vs, b :: bs, ⟨v, t, e, g, q⟩ => by
    subst e
    rw [keepB, keepB]
    cases b with
    | true => exact ⟨v, keepB t bs, rfl, g, rps_keep bs q⟩
    | false => exact rps_keep bs q
theorem ows_keep {P : Dt → V → List Addr → Prop} : ∀ {ds : List Dt} {vs : List V} {L : List Addr} (bs : List Bool), L.Nodup → Ows P ds vs L → ∃ L', (∀ a ∈ L', a ∈ L) ∧ L'.Nodup ∧ Ows P (keepB ds bs) (keepB vs bs) L'
  | [], vs, L, bs, nd, o => by
    rw [o.1]
    refine ⟨[], fun a ha => (by cases ha), List.nodup_nil, ?_⟩
    cases bs <;> exact ⟨rfl, rfl⟩
  | d :: ds, vs, L, [], nd, o => ⟨[], fun a ha => (by cases ha), List.nodup_nil, by rw [keepB_nil, keepB_nil]; exact ⟨rfl, rfl⟩⟩
  | d :: ds, vs, L, b :: bs, nd, ⟨v, r, L1, L2, e1, e2, p, q⟩ => by
    subst e1; subst e2
    obtain ⟨n1, n2, n3⟩ := List.nodup_append.mp nd
    obtain ⟨M, m1, m2, m3⟩ := ows_keep bs n2 q
    rw [keepB, keepB]
    cases b with
    | true => exact ⟨L1 ++ M, fun a ha => (List.mem_append.mp ha).elim (fun h => List.mem_append_left _ h) fun h => List.mem_append_right _ (m1 a h), List.nodup_append.mpr ⟨n1, m2, fun x hx y hy => n3 x hx y (m1 y hy)⟩, v, keepB r bs, L1, M, rfl, rfl, p, m3⟩
    | false => exact ⟨M, fun a ha => List.mem_append_right _ (m1 a ha), m2, m3⟩
theorem tlc_keep {K : PySem.W.Frag} {cm : Nat → Value} {mt : Ev → Res Bool} {σ : L2.St} {H G : Hp} {Γ : Ev} {Q : VK} {j y : Nat} {a : Addr} {vs : List V} {ds : List Dt} {fl : List Bool} (s : Same G H) (ev : EvR K G Γ σ) (hy : σ[y]? = some (some (.ref a))) (ga : G a = some (.lst vs)) (rr : Rps K G ds vs)
    (hf : fltR mt j Γ ds = .ok fl) (hj : j < σ.length) (hl : ds.length ≤ 16777216) (q : ∀ D H' G', LcSt K 0 H G D (keepB ds fl) (keepB vs fl) [] H' G' → Q (.ref D) H') : tLc (iList K (tVar y)) (gName j) (tDT K cm Ef mt) (tVar j) [j] σ H Q := by
  obtain ⟨lfl, hfl⟩ := fltR_get hf
  have lvs := rr.length
  refine ⟨.ref a, hy, a, rfl, ⟨vs, .inl (.inl (s _ _ ga))⟩, fun D nD => ?_⟩
  refine ⟨fun i m H' => i + m = ds.length ∧ ∃ G', LcSt K 0 H G D (keepB (ds.take i) (fl.take i)) (keepB (vs.take i) (fl.take i)) [] H' G',
    ⟨ds.length, by omega, G, ⟨.newH s nD _, nD, upd_same, none_back s nD, List.nodup_nil, fun a ha => (nomatch ha), by simp, rfl, rfl⟩⟩, ?_⟩
  rintro i m H2 ⟨him, G2, B⟩
  have aH2 : H2 a = some (.lst vs) := B.st.s _ _ (B.st.g _ _ ga)
  by_cases hi : i < ds.length
  · right
    have hvi : i < vs.length := by omega
    refine ⟨⟨vs, vs[i], .inl (.inl aH2), List.getElem?_eq_getElem hvi⟩, fun H' => ∃ G', LcSt K 0 H G D (keepB (ds.take (i + 1)) (fl.take (i + 1))) (keepB (vs.take (i + 1)) (fl.take (i + 1))) [] H' G', fun H' h' => ⟨m - 1, by omega, by omega, h'⟩, fun x H3 yl => ?_⟩
    obtain ⟨rfl, hx⟩ := yl
    have hx := hx vs (.inl (.inl aH2))
    have hd : ds[i]? = some ds[i] := List.getElem?_eq_getElem hi
    obtain ⟨b, hb, hmt⟩ := hfl i _ hd
    obtain ⟨x', hx', rx⟩ := rr.get hd
    rw [hx] at hx'
    cases hx'
    have rx2 : Rp K G2 ds[i] x := rx.mono B.st.g
    show wipe ((wipe σ [j]).set j (some x)) [j] = wipe σ [j] ∧ _
    refine ⟨?_, ?_⟩
    · show ((wipe σ [j]).set j (some x)).set j none = wipe σ [j]
      rw [List.set_set]
      show ((wipe σ []).set j none).set j none = (wipe σ []).set j none
      rw [List.set_set]
    have ev4 : EvR K G2 (Γ.set j (some ds[i])) ((wipe σ [j]).set j (some x)) :=
      EvR.bind (is := [j]) (ds := [ds[i]]) (vs := [x]) (Γ := Γ) (σ := wipe σ [j]) (fun k d hk e => by
        rw [wipe_get hk]
        obtain ⟨v, h1, h2⟩ := ev.at_ k d e
        exact ⟨v, h1, h2.mono B.st.g⟩) (by rw [wipe_length]; exact ev.len) ⟨x, [], rfl, rx2, rfl⟩ rfl
    refine ⟨G2, Γ.set j (some ds[i]), B.st.s, ev4, ?_⟩
    rw [hmt]
    intro H5 G5 st5
    have keep : LcSt K 0 H G D (keepB (ds.take i) (fl.take i)) (keepB (vs.take i) (fl.take i)) [] H5 G5 :=
      ⟨B.st.trans st5, B.d0, st5.h _ _ B.at_, apart1 st5 B.at_ B.dg, B.nd, fun a ha => (nomatch ha), B.dl, B.ow.mono fun d v L o => o.mono st5.h st5.g⟩
    have e1 := keepB_take (xs := ds) (bs := fl) (i := i) hd hb
    have e2 := keepB_take (xs := vs) (bs := fl) (i := i) hx hb
    cases b with
    | false =>
      rw [if_neg Bool.false_ne_true] at e1 e2 ⊢
      rw [List.append_nil] at e1 e2
      exact ⟨G5, by rw [e1, e2]; exact keep⟩
    | true =>
      rw [if_pos rfl] at e1 e2 ⊢
      refine ⟨x, List.getElem?_set_self (by rw [wipe_length]; exact hj), ?_⟩
      have kl : (keepB (vs.take i) (fl.take i)).length ≤ i := by
        have go : ∀ {xs : List V} {bs : List Bool}, (keepB xs bs).length ≤ xs.length := by
          intro xs
          induction xs with
          | nil => intro bs; cases bs <;> exact Nat.le_refl _
          | cons x xs ih =>
            intro bs
            cases bs with
            | nil => exact Nat.zero_le _
            | cons b bs =>
              rw [keepB]
              have := ih (bs := bs)
              cases b <;> simp <;> omega
        have := go (xs := vs.take i) (bs := fl.take i)
        rw [List.length_take] at this; omega
      refine ⟨_, keep.at_, by rw [sizeLine_eq]; omega, G5, ?_⟩
      rw [e1, e2]
      have stw : Same H (upd H5 D (.lst (keepB (vs.take i) (fl.take i) ++ [x]))) := fun a o e => by
        rw [upd_ne (ne_of_none e B.d0)]
        exact keep.st.h _ _ e
      have sgw : Same G5 (upd H5 D (.lst (keepB (vs.take i) (fl.take i) ++ [x]))) := fun a o e => by
        have ne : a ≠ D := fun z => by rw [z, keep.dg] at e; cases e
        rw [upd_ne ne]
        exact keep.st.s _ _ e
      refine ⟨⟨stw, keep.st.g, sgw, keep.st.new⟩, B.d0, upd_same, keep.dg, List.nodup_nil, fun a ha => (nomatch ha), by simp, ?_⟩
      have z := Ows.snoc (d := ds[i]) (v := x) (L2 := []) (P := Ow K (upd H5 D (.lst (keepB (vs.take i) (fl.take i) ++ [x]))) G5 0) (by rw [Ow.zero]; exact ⟨rfl, rx2.mono st5.g⟩) (keep.ow.mono fun d v L o => by rw [Ow.zero] at o ⊢; exact o)
      rw [List.append_nil] at z
      exact z
  · left
    have e : i = ds.length := by omega
    subst e
    refine ⟨⟨vs, .inl (.inl aH2), by rw [lvs]; exact Nat.le_refl _⟩, q D H2 G2 ?_⟩
    rw [List.take_length, show fl.take ds.length = fl by rw [← lfl, List.take_length], show vs.take ds.length = vs by rw [← lvs, List.take_length]] at B
    exact B
def sRetSF (i j : Nat) (mt : Ev → Res Bool) : Ms := fun Γ => match Γ[i]? with
  | some (some (.lst ds)) => match bds? ds, fltR mt j Γ ds with
    | some bs, .ok fl => ifO (decide (ds.length ≤ 16777216) && decide (j < Γ.length)) (.ret (.lst ((sortB (keepB bs fl)).map bD)))
    | _, _ => .bad
  | _ => .bad
theorem sRetSF_ok {K : PySem.W.Frag} {cm : Nat → Value} {W : WX} {nr i j : Nat} {O' : List Nat} {mt : Ev → Res Bool} {Γ : Ev} {H0 G0 : Hp} {D : Ends} (po : SPost K cm W nr H0 G0 O' (sRetSF i j mt Γ) D) : ∃ (bs : List Bd) (fl : List Bool), Γ[i]? = some (some (.lst (bs.map bD))) ∧ fltR mt j Γ (bs.map bD) = .ok fl ∧ (bs.map bD).length ≤ 16777216 ∧ j < Γ.length ∧ SPost K cm W nr H0 G0 O' (.ret (.lst ((sortB (keepB bs fl)).map bD))) D := by
  unfold sRetSF at po
  split at po
  · rename_i ds h
    split at po
    · rename_i bs fl hb hf
      have e := bds?_some hb
      subst e
      obtain ⟨hc, po2⟩ := ifO_po po
      obtain ⟨h1, h2⟩ := and_t hc
      exact ⟨bs, fl, h, hf, of_decide_eq_true h1, of_decide_eq_true h2, po2⟩
    · exact po.elim
  · exact po.elim
theorem ds_retSF {X : Cx} {cm : Nat → Value} {W : WX} {n i j : Nat} {O O' : List Nat} {elt tg iter : Expr} {ifs : List Expr} {scope : Scope} {own : List (Str × Nat)} {mt : Ev → Res Bool} {pos pos2 pos3 p : Pos} (hO : lv O i = n + 1) (hu : X.A.units + 65 < cLine) (hm : X.mg "sorted" = none) (hc : X.calm = true) (hN : X.N.Nodup) (hi : PE X iter (tVar i)) (ok : BlkOk X.N X.env.scope scope own) (hsl : own.map (·.2) = [j])
    (hg : ∀ (s : Shared) (H : Hp) (C : Addr) (cl : List (Str × Addr)) (fp : List Addr), PG (X.blk s H scope (compEnvC scope cl C X.env) fp) tg (gName j))
    (ht : ∀ (s : Shared) (H : Hp) (C : Addr) (cl : List (Str × Addr)) (fp : List Addr), DTs (X.blk s H scope (compEnvC scope cl C X.env) fp) cm Ef ifs mt)
    (hel : ∀ (s : Shared) (H : Hp) (C : Addr) (cl : List (Str × Addr)) (fp : List Addr), PE (X.blk s H scope (compEnvC scope cl C X.env) fp) elt (tVar j)) (hs : ∀ x, foldedSetIterable iter X.env x = pure x := by intro _; rfl)
    (hgl : Gl X "sorted" := by rfl) (he : starEach [.ListComp elt [⟨tg, iter, ifs, 0⟩] scope pos3] X.env = (false, eval (.ListComp elt [⟨tg, iter, ifs, 0⟩] scope pos3) X.env) :: starEach [] X.env := by rfl) (hpl : (backTo pos (starEach [] X.env)).any (·.1) = false := by rfl) :
    DS X cm W (n + 1) O O' (.Return (some (.Call (.Name "sorted" p) [.ListComp elt [⟨tg, iter, ifs, 0⟩] scope pos3] [] pos)) pos2) (sRetSF i j mt) := by
  refine PS.of (ps_ret (pe_callB (cr_sortedB hu) hgl hm boot_sorted (pa_cons (pe_lc (own := own) (wi := iList X.K (tVar i)) (g := gName j) (tt := tDT X.K cm Ef mt) (te := tVar j) hc hN (pi_list hi) ok hg ht hel hs) pa_nil he) (by decide) (by decide) he hpl)) fun D σ H ⟨H0, G0, Γ, ⟨Ls, S, I⟩, po⟩ => ?_
  obtain ⟨bs, fl, hΓ, hf, hlen, hj, po⟩ := sRetSF_ok po
  obtain ⟨v, h1, h2⟩ := I.rep i _ hΓ
  obtain ⟨v', h1', r'⟩ := I.all.at_ i _ hΓ
  rw [h1] at h1'
  cases h1'
  rw [hO] at h2
  obtain ⟨a, vs, L', rfl, ha2, e3, o⟩ := h2
  obtain ⟨a', vs', ea, ga, rr⟩ := r'
  cases ea
  have ev : vs' = vs := by
    have q := Vw.same _ _ ga
    rw [ha2] at q
    cases q; rfl
  subst ev
  rw [hsl]
  show tLc (iList X.K (tVar i)) (gName j) (tDT X.K cm Ef mt) (tVar j) [j] σ H (fun v H1 => rSortedB X.K [v] H1 D.rt)
  refine tlc_keep (cm := cm) (Γ := Γ) (y := i) (j := j) Vw.same I.all h1 ga rr hf (by rw [← I.len]; exact hj) hlen fun D' H' G' B => ?_
  have I' := I.grow B.st.h
  have rk : Rps X.K G' ((keepB bs fl).map bD) (keepB vs' fl) := by
    have := (Ows.zero_of B.ow).2
    rwa [keepB_map] at this
  obtain ⟨z1, z2, z3⟩ := rps_pairs rk
  refine ⟨D', (keepB vs' fl).zip (keepB bs fl), rfl, by rw [z1]; exact .inl (.inl B.at_), fun q hq => ?_, fun p np => ?_⟩
  · refine dp_of B.st.s (n := 2) ?_ (z3 q hq)
    show (q.2.map rowD).all (deep 1) = true
    refine List.all_eq_true.mpr fun d hd => ?_
    obtain ⟨r, _, rfl⟩ := List.mem_map.mp hd
    show (r.map Dt.int).all (deep 0) = true
    refine List.all_eq_true.mpr fun d hd => ?_
    obtain ⟨i, _, rfl⟩ := List.mem_map.mp hd
    rfl
  · have e : (((keepB vs' fl).zip (keepB bs fl)).mergeSort leP).map (fun p => bD p.2) = (sortB (keepB bs fl)).map bD := by
      have e2 : (((keepB vs' fl).zip (keepB bs fl)).mergeSort leP).map (·.2) = sortB (keepB bs fl) := by
        unfold sortB
        rw [List.map_mergeSort (r := leP) (s := leB) (f := (·.2)) (fun a _ b _ => rfl), z2]
      rw [← e2, List.map_map]; rfl
    have nd := I.nd i
    rw [e3] at nd
    obtain ⟨na, nd⟩ := List.nodup_cons.mp nd
    obtain ⟨M, m1, m2, m3⟩ := ows_keep fl nd o
    rw [keepB_map] at m3
    have o' : Ows (Ow X.K H' (Vw H0 G0 S H') n) (((keepB vs' fl).zip (keepB bs fl)).map fun p => bD p.2) (((keepB vs' fl).zip (keepB bs fl)).map (·.1)) M := by
      have e4 : ((keepB vs' fl).zip (keepB bs fl)).map (fun p => bD p.2) = (keepB bs fl).map bD := by
        have : ((keepB vs' fl).zip (keepB bs fl)).map (fun p => bD p.2) = (((keepB vs' fl).zip (keepB bs fl)).map (·.2)).map bD := by rw [List.map_map]; rfl
        rw [this, z2]
      rw [e4, z1]
      exact m3.mono fun d v L q => q.mono B.st.h (Vw.mono B.st.h fun a q _ => q)
    obtain ⟨L1, pm, o1⟩ := ows_perm (List.mergeSort_perm ((keepB vs' fl).zip (keepB bs fl)) leP).symm o'
    rw [e] at o1
    have inS : ∀ b ∈ L1, b ∈ S := fun b hb => I.sub i b (by rw [e3]; exact List.mem_cons_of_mem _ (m1 b (pm.mem_iff.mp hb)))
    have st : Stp H0 G0 H' (Vw H0 G0 S H') := ⟨I'.h0, I'.g0v, Vw.same, fun a o q => (Vw.inv q).2.1⟩
    have st2 := st.trans (Stp.newH Vw.same np (.lst ((((keepB vs' fl).zip (keepB bs fl)).mergeSort leP).map (·.1))))
    have up : Same H' (upd H' p (.lst ((((keepB vs' fl).zip (keepB bs fl)).mergeSort leP).map (·.1)))) := fun b u e => by rw [upd_ne (ne_of_none e np)]; exact e
    have po' : ∀ v H', RetOk X.K (n + 1) H0 G0 (.lst ((sortB (keepB bs fl)).map bD)) v H' → D.rt v H' := po
    refine po' _ _ ⟨Vw H0 G0 S H', p :: L1, st2, List.nodup_cons.mpr ⟨fun z => ?_, pm.nodup_iff.mpr m2⟩, fun b hb => ?_, p, _, L1, rfl, upd_same, rfl, o1.mono fun d v L o => o.mono up (Same.refl _)⟩
    · obtain ⟨u, w⟩ := (I'.own p (inS p z)).2.2
      rw [np] at w; cases w
    · rcases List.mem_cons.mp hb with rfl | hb
      · exact ⟨none_back I'.h0 np, none_back Vw.same np⟩
      · refine ⟨(I'.own b (inS b hb)).1, ?_⟩
        cases z : Vw H0 G0 S H' b with
        | none => rfl
        | some o => exact absurd (inS b hb) (Vw.inv z).1
end DL

set_option Elab.async false
set_option linter.all false
set_option maxRecDepth 100000
set_option maxHeartbeats 2000000
namespace DL
open PySem PySem.Spec PyProof.Rows L2

/-! ### min(xs, default=d), max(xs, default=d) -/
def minI (d : Int) : List Int → Int
  | [] => d
  | y :: ys => ys.foldl min y
def maxI (d : Int) : List Int → Int
  | [] => d
  | y :: ys => ys.foldl max y
def rMinD (K : PySem.W.Frag) : List V → List V → Hp → VK → Prop := fun xs zs H Q => ∃ (a : Addr) (ns : List Int) (d : Int), xs = [.ref a] ∧ zs = [.int d] ∧ SqL K H a (ns.map V.int) ∧ Q (.int (minI d ns)) H
def rMaxD (K : PySem.W.Frag) : List V → List V → Hp → VK → Prop := fun xs zs H Q => ∃ (a : Addr) (ns : List Int) (d : Int), xs = [.ref a] ∧ zs = [.int d] ∧ SqL K H a (ns.map V.int) ∧ Q (.int (maxI d ns)) H
theorem dps_ints {K : PySem.W.Frag} {H : Hp} : ∀ ns : List Int, DpAll K H (ns.map V.int) (ns.map PyData.int)
  | [] => .nil
  | n :: ns => .cons (.int n) (dps_ints ns)
theorem depth_ints : ∀ ns : List Int, PyData.depthAll (ns.map PyData.int) = 0 := fun ns => by
  have := depthAll_le (n := 0) (ds := ns.map PyData.int) fun d hd => by
    obtain ⟨i, _, rfl⟩ := List.mem_map.mp hd
    exact Nat.le_refl _
  omega
theorem reads_int {h : Heap} {v : Value} {n : Int} {bs : List Addr} (r : Reads h v (.int n) bs) : ∃ t, v = .int n t := by cases r; exact ⟨_, rfl⟩
theorem alike_all (ns : List Int) : PySem.W.AlikeAll (ns.map PyData.int) := by
  refine ⟨fun x hx y hy => ?_, fun x hx => ?_⟩
  · obtain ⟨i, _, rfl⟩ := List.mem_map.mp hx
    obtain ⟨j, _, rfl⟩ := List.mem_map.mp hy
    have := PySem.W.alike_ints [i] [j]
    rw [List.map_cons, List.map_cons, PySem.W.alikeAll, Bool.and_eq_true] at this
    exact this.1
  · obtain ⟨i, _, rfl⟩ := List.mem_map.mp hx
    exact fun z => nomatch z
section
variable {X : Cx}
theorem cr_minD (hc : X.calm = true) (hu : X.A.units + 65 < cLine) : CallRK X (.builtin "min") [Str.ofString "default"] (rMinD X.K) := by
  intro pins s σ H xs zs us ws Q I r rz h
  obtain ⟨a, ns, d, rfl, rfl, hs, q⟩ := h
  obtain ⟨its, rv, hl, hz⟩ := I.list hs
  rw [Vals.ref1 r]
  obtain ⟨u, rfl, ru⟩ := rz.one
  obtain ⟨t, rfl⟩ := ru
  obtain ⟨as, ra⟩ := Dp.readsAll I _ _ _ (dps_ints ns) rv
  refine PySem.W.min_list_default (I.ok.hd hc) hl.isList (by simpa using ra) (alike_all ns) (by rw [depth_ints]; omega) (fun e h' tk hk => ?_) fun y ys i v h' tk bs e hv hr hk => ?_
  · cases ns with
    | nil => exact ⟨.int d, H, I.kept hk, ⟨t, rfl⟩, q⟩
    | cons n ns => cases e
  · cases ns with
    | nil => cases e
    | cons n ns =>
      rw [List.map_cons] at e
      cases e
      rw [PySem.W.minD_ints] at hr
      obtain ⟨t', rfl⟩ := reads_int hr
      exact ⟨.int _, H, I.kept hk, ⟨t', rfl⟩, q⟩
theorem cr_maxD (hc : X.calm = true) (hu : X.A.units + 65 < cLine) : CallRK X (.builtin "max") [Str.ofString "default"] (rMaxD X.K) := by
  intro pins s σ H xs zs us ws Q I r rz h
  obtain ⟨a, ns, d, rfl, rfl, hs, q⟩ := h
  obtain ⟨its, rv, hl, hz⟩ := I.list hs
  rw [Vals.ref1 r]
  obtain ⟨u, rfl, ru⟩ := rz.one
  obtain ⟨t, rfl⟩ := ru
  obtain ⟨as, ra⟩ := Dp.readsAll I _ _ _ (dps_ints ns) rv
  refine PySem.W.max_list_default (I.ok.hd hc) hl.isList (by simpa using ra) (alike_all ns) (by rw [depth_ints]; omega) (fun e h' tk hk => ?_) fun y ys i v h' tk bs e hv hr hk => ?_
  · cases ns with
    | nil => exact ⟨.int d, H, I.kept hk, ⟨t, rfl⟩, q⟩
    | cons n ns => cases e
  · cases ns with
    | nil => cases e
    | cons n ns =>
      rw [List.map_cons] at e
      cases e
      rw [PySem.W.maxD_ints] at hr
      obtain ⟨t', rfl⟩ := reads_int hr
      exact ⟨.int _, H, I.kept hk, ⟨t', rfl⟩, q⟩
end
def fMinD (d : Int) : Dt → Res Dt
  | .lst ds => match ints? ds with
    | some ns => .ok (.int (minI d ns))
    | none => .bad
  | _ => .bad
def fMaxD (d : Int) : Dt → Res Dt
  | .lst ds => match ints? ds with
    | some ns => .ok (.int (maxI d ns))
    | none => .bad
  | _ => .bad
section
variable {X : Cx} {cm : Nat → Value} {E : L2.St → XK} {n : Nat} {e : Expr} {m : Mr} {z : Int}
theorem de_minD (h : PE X e (tCKw (rMinD X.K) (tCons (tD X.K cm E 0 m) tNil) (tCons (tC (.int z)) tNil))) : DE X cm E n e (mUn (fMinD z) m) :=
  PE.of h fun σ H Q ⟨G, Γ, s, ev, po⟩ => un_ok (n := n) (f := fMinD z) (r := fun x H1 Q => rMinD X.K [x] [.int z] H1 Q) (fun E x H G d1 Q s r1 po => by
    cases d1 with
    | lst ds =>
      cases hi : ints? ds with
      | none => simp only [fMinD, hi] at po; exact (show False from po).elim
      | some ns =>
        simp only [fMinD, hi] at po
        obtain ⟨a, us, rfl, ga, q⟩ := r1
        rw [ints?_some hi] at q
        rw [q.ints] at ga
        exact ⟨a, ns, z, rfl, rfl, .inl (.inl (s _ _ ga)), po.scal s rfl rfl⟩
    | _ => exact (show False from po).elim) s ev po
theorem de_maxD (h : PE X e (tCKw (rMaxD X.K) (tCons (tD X.K cm E 0 m) tNil) (tCons (tC (.int z)) tNil))) : DE X cm E n e (mUn (fMaxD z) m) :=
  PE.of h fun σ H Q ⟨G, Γ, s, ev, po⟩ => un_ok (n := n) (f := fMaxD z) (r := fun x H1 Q => rMaxD X.K [x] [.int z] H1 Q) (fun E x H G d1 Q s r1 po => by
    cases d1 with
    | lst ds =>
      cases hi : ints? ds with
      | none => simp only [fMaxD, hi] at po; exact (show False from po).elim
      | some ns =>
        simp only [fMaxD, hi] at po
        obtain ⟨a, us, rfl, ga, q⟩ := r1
        rw [ints?_some hi] at q
        rw [q.ints] at ga
        exact ⟨a, ns, z, rfl, rfl, .inl (.inl (s _ _ ga)), po.scal s rfl rfl⟩
    | _ => exact (show False from po).elim) s ev po
end
end DL

set_option Elab.async false
set_option linter.all false
set_option maxRecDepth 100000
set_option maxHeartbeats 4000000
namespace DL
open PySem PySem.Spec PyProof.Rows L2

/-! ### for x in y: z.extend(e), y owned and only read, z owned, e a list of scalars -/
def extL (me : Mr) (j z : Nat) (Γ : Ev) : List Dt → List Dt → Option (List Dt)
  | [], zs => some zs
  | d :: ds, zs => match me ((Γ.set z none).set j (some d)) with
    | .ok (.lst es) => if (es.all isScal && decide (zs.length + es.length ≤ 16777216)) = true then extL me j z Γ ds (zs ++ es) else none
    | _ => none
def sForExt (i j z : Nat) (me : Mr) : Ms := fun Γ => ifO (decide (j < Γ.length)) (onL Γ i fun ds => onL Γ z fun zs => match extL me j z Γ ds zs with
  | some zs' => .nx ((Γ.set j none).set z (some (.lst zs')))
  | none => .bad)
theorem ows_scal {K : PySem.W.Frag} {G H' G' : Hp} {n : Nat} : ∀ {es : List Dt} {ws : List V}, es.all isScal = true → Rps K G es ws → Ows (Ow K H' G' n) es ws []
  | [], _, _, r => ⟨r, rfl⟩
  | d :: ds, _, h, ⟨v, r, e, g, q⟩ => by
    rw [List.all_cons, Bool.and_eq_true] at h
    exact ⟨v, r, [], [], e, rfl, rp_ow h.1 g, ows_scal h.2 q⟩
theorem SIw.head {K : PySem.W.Frag} {H0 G0 H : Hp} {O : List Nat} {Ls : Nat → List Addr} {S : List Addr} {Γ : Ev} {σ : L2.St} {i n : Nat} {ds : List Dt} (I : SIw K H0 G0 O Ls S Γ σ H) (hΓ : Γ[i]? = some (some (.lst ds))) (hn : lv O i = n + 1) : ∃ a vs, σ[i]? = some (some (.ref a)) ∧ H a = some (.lst vs) ∧ a ∈ Ls i ∧ vs.length = ds.length ∧ Rps K (Vw H0 G0 [] H) ds vs := by
  obtain ⟨v, h1, h2⟩ := I.rep i _ hΓ
  obtain ⟨v', h1', r'⟩ := I.all.at_ i _ hΓ
  rw [h1] at h1'
  cases h1'
  rw [hn] at h2
  obtain ⟨a, vs, L', rfl, e2, e3, q⟩ := h2
  obtain ⟨a', vs', ea, ga, rr⟩ := r'
  cases ea
  have := Vw.same _ _ ga
  rw [e2] at this
  cases this
  exact ⟨a, vs, h1, e2, by rw [e3]; exact List.mem_cons_self, rr.length, rr⟩
section
variable {X : Cx} {cm : Nat → Value} {W : WX} {nr i j z n : Nat} {O : List Nat} {me : Mr} {tg iter e : Expr} {pos pos2 : Pos}
theorem ds_forExt (hp : PassesOwn (model X.prog X.w) X.A X.env X.xe) (hc : X.calm = true) (hO : lv O i = n + 1) (hz : lv O z = 1) (hiz : i ≠ z) (hij : j ≠ i) (hjz : j ≠ z) (hi : PE X iter (tVar i)) (hg : PG X tg (gName j))
    (hb : PE X e (tBM X.K "list" rExtend (tVar z) (tCons (tD X.K cm (WE W) 0 me) tNil))) (hs : ∀ x, foldedSetIterable iter X.env x = pure x := by intro _; rfl) (hsw : swapsWith e none pos2.line X.env = pure false := by rfl) :
    DS X cm W nr O O (.For tg iter [.Expr e pos2] [] pos) (sForExt i j z me) := by
  refine PS.of (ps_for hp hc (pi_list hi) hg (pss_one (ps_expr hb hsw)) hs) fun D σ H ⟨H0, G0, Γ, ⟨Ls, S, I⟩, po⟩ => ?_
  obtain ⟨hjl, po⟩ := ifO_po po
  have hjl := of_decide_eq_true hjl
  obtain ⟨ds, hΓ, po⟩ := onL_po po
  obtain ⟨zs0, hΓz, po⟩ := onL_po po
  obtain ⟨a, vs, hσ, hH, haL, hlen, _⟩ := I.head hΓ hO
  cases hext : extL me j z Γ ds zs0 with
  | none => rw [hext] at po; exact (show False from po).elim
  | some zsF =>
    rw [hext] at po
    have hzl : z < Γ.length := (List.getElem?_eq_some_iff.mp hΓz).1
    have step0 : (Γ.set j none).set z (some (.lst zs0)) = Γ.set j none := by
      refine List.ext_getElem? fun k => ?_
      by_cases hk : z = k
      · subst hk
        rw [List.getElem?_set_self (by rw [List.length_set]; exact hzl), List.getElem?_set_ne hjz, hΓz]
      · rw [List.getElem?_set_ne hk]
    refine ⟨.ref a, hσ, a, rfl, ⟨vs, .inl (.inl hH)⟩, fun k m σ' H' => k + m = ds.length ∧ ∃ zs, extL me j z Γ (ds.drop k) zs = some zsF ∧ SI X.K H0 G0 O ((Γ.set j none).set z (some (.lst zs))) σ' H' ∧ σ'[i]? = some (some (.ref a)) ∧ H' a = some (.lst vs), ⟨ds.length, by omega, zs0, hext, ?_, hσ, hH⟩, ?_⟩
    · rw [step0]
      exact ⟨_, _, I.drop j⟩
    rintro k m σ1 H1 ⟨hkm, zs, hE, ⟨Ls1, S1, I1⟩, hσ1, hH1⟩
    have hlenΓ : (Γ.set j none).length = Γ.length := List.length_set
    have hz1 : ((Γ.set j none).set z (some (.lst zs)))[z]? = some (some (.lst zs)) := List.getElem?_set_self (by rw [hlenΓ]; exact hzl)
    have hi1 : ((Γ.set j none).set z (some (.lst zs)))[i]? = some (some (.lst ds)) := by rw [List.getElem?_set_ne (fun q => hiz q.symm), List.getElem?_set_ne hij]; exact hΓ
    have hj1 : ((Γ.set j none).set z (some (.lst zs)))[j]? = some none := by rw [List.getElem?_set_ne (fun q => hjz q.symm)]; exact List.getElem?_set_self hjl
    have len1 : ((Γ.set j none).set z (some (.lst zs))).length = Γ.length := by rw [List.length_set, List.length_set]
    have hjσ : j < σ1.length := by rw [← I1.len, len1]; exact hjl
    by_cases hk : k < ds.length
    · right
      have hkv : k < vs.length := by omega
      refine ⟨⟨vs, vs[k], .inl (.inl hH1), List.getElem?_eq_getElem hkv⟩, fun σ' H' => ∃ zs, extL me j z Γ (ds.drop (k + 1)) zs = some zsF ∧ SI X.K H0 G0 O ((Γ.set j none).set z (some (.lst zs))) σ' H' ∧ σ'[i]? = some (some (.ref a)) ∧ H' a = some (.lst vs), fun σ' H' h' => ⟨m - 1, by omega, by omega, h'⟩, fun x H2 yl => ?_⟩
      obtain ⟨rfl, hx⟩ := yl
      have hx := hx vs (.inl (.inl hH1))
      have hd : ds[k]? = some ds[k] := List.getElem?_eq_getElem hk
      have hdrop : ds.drop k = ds[k] :: ds.drop (k + 1) := List.drop_eq_getElem_cons hk
      rw [hdrop] at hE
      obtain ⟨a', vs', hσ', hH', haL', hlen', rr⟩ := I1.head hi1 hO
      rw [hσ1] at hσ'
      cases hσ'
      rw [hH1] at hH'
      cases hH'
      obtain ⟨x', hx', rx⟩ := rr.get hd
      rw [hx] at hx'
      cases hx'
      obtain ⟨az, vz, hσz, hHz, hazL, hlz, _⟩ := I1.head hz1 hz
      have hne : a ≠ az := fun q => I1.dj i z hiz a haL' (by rw [q]; exact hazL)
      show tBM X.K "list" rExtend (tVar z) (tCons (tD X.K cm (WE W) 0 me) tNil) (σ1.set j (some x)) H2 _
      refine ⟨.ref az, by rw [List.getElem?_set_ne hjz]; exact hσz, lst_ty hHz, ?_⟩
      have ev : EvR X.K (Vw H0 G0 [] H2) ((Γ.set z none).set j (some ds[k])) (σ1.set j (some x)) := by
        refine ⟨fun l d e => ?_, by rw [List.length_set, List.length_set, List.length_set, ← I1.len, len1]⟩
        by_cases hlj : j = l
        · subst hlj
          rw [List.getElem?_set_self (by rw [List.length_set]; exact hjl)] at e
          cases e
          exact ⟨x, List.getElem?_set_self hjσ, rx⟩
        · rw [List.getElem?_set_ne hlj] at e
          by_cases hlz : z = l
          · subst hlz
            rw [List.getElem?_set_self hzl] at e; cases e
          · rw [List.getElem?_set_ne hlz] at e
            obtain ⟨v, q1, q2⟩ := I1.all.at_ l d (by rw [List.getElem?_set_ne hlz, List.getElem?_set_ne hlj]; exact e)
            exact ⟨v, by rw [List.getElem?_set_ne hlj]; exact q1, q2⟩
      refine ⟨Vw H0 G0 [] H2, (Γ.set z none).set j (some ds[k]), Vw.same, ev, ?_⟩
      unfold extL at hE
      cases hm : me ((Γ.set z none).set j (some ds[k])) with
      | bad => rw [hm] at hE; cases hE
      | exc c => rw [hm] at hE; cases hE
      | ok r =>
        rw [hm] at hE
        cases r with
        | lst es =>
          dsimp only at hE
          by_cases hcond : (es.all isScal && decide (zs.length + es.length ≤ 16777216)) = true
          · rw [if_pos hcond] at hE
            obtain ⟨hsc, hsz⟩ := and_t hcond
            have hsz := of_decide_eq_true hsz
            intro v H3 G3 L st nd fr ow
            rw [Ow.zero] at ow
            obtain ⟨rfl, b, ws, rfl, gb, rb⟩ := ow
            have I3 := I1.grow st.h
            obtain ⟨az', vz', hσz', hHz', hlz', fin, hazS, _⟩ := I3.top (ds' := zs ++ es) (n := 0) hz1 hz List.nodup_nil nil_fr
            rw [hσz] at hσz'
            cases hσz'
            rw [st.h _ _ hHz] at hHz'
            cases hHz'
            refine ⟨az, b, vz, ws, rfl, rfl, st.h _ _ hHz, st.s _ _ gb, by rw [hlz, rb.length, sizeLine_eq]; exact hsz, ?_⟩
            have SJ := fin (vz ++ ws) (lop_extend (ows_scal hsc rb))
            obtain ⟨Ls4, S4, J⟩ := SJ
            rw [List.set_set] at J
            have hj4 : ((Γ.set j none).set z (some (.lst (zs ++ es))))[j]? = some none := by rw [List.getElem?_set_ne (fun q => hjz q.symm)]; exact List.getElem?_set_self hjl
            refine ⟨zs ++ es, hE, ⟨Ls4, S4, J.blind (jr := j) (.inl hj4) (some x)⟩, by rw [List.getElem?_set_ne hij]; exact hσ1, ?_⟩
            rw [upd_ne hne]
            exact st.h _ _ hH1
          · rw [if_neg hcond] at hE; cases hE
        | _ => cases hE
    · left
      have ek : k = ds.length := by omega
      subst ek
      rw [List.drop_length] at hE
      cases hE
      exact ⟨⟨vs, .inl (.inl hH1), by rw [hlen]; exact Nat.le_refl _⟩, po σ1 H1 ⟨Ls1, S1, I1⟩⟩
end
end DL


set_option Elab.async false
set_option linter.all false
set_option maxRecDepth 100000
set_option maxHeartbeats 4000000
namespace DL
open PySem PySem.Spec PyProof.Rows L2

/-! ### a def that is handed a suite's exception -/
structure FnP (P : Program) (w : World) (K : PySem.W.Frag) (mg : Str → Option Value) (base : Heap) (k : Nat) (f : Addr) (fd : FuncData) (x : Str) (sp : Addr × Obj → Hp → VK → Prop) : Prop where
  run : ∀ (A : Around) (outer : List PySem.Env) (s : Shared) (H : Hp) (args : Args) (Q : VK) (p : Addr × Obj), L2H.RoomH k A → L2H.PinOk outer H s p → Env0 P w K mg base A outer s H → BindsTo s fd args ([x].zip [Value.ref p.1]) → sp p H Q →
    codeAny (model P w) A (.call (.ref f) args) (CR CX0 outer P w H s Q E0) s
theorem fn_ofP {P : Program} {w : World} {K : PySem.W.Frag} {mg : Str → Option Value} {base : Heap} {k : Nat} {f : Addr} {fd : FuncData} {name qual : Str} {st : Stmt} {N : List Str} {x : Str} {sp : Addr × Obj → Hp → VK → Prop} (F : Fun K name qual st f fd) (S : FnScope N [x] (defScope st))
    (hbody : ∀ (cdv : Value) (A : Around) (outer : List PySem.Env) (s : Shared) (H : Hp) (Q : VK) (p : Addr × Obj), sp p H Q →
      ∃ t, PSs (L2H.cxH CX0 P w K mg base N qual (defScope st) f cdv A outer s H E0 p) (defBody st) t ∧ t { nx := fun _ H' => Q .non H', rt := Q } (L2.start N [.ref p.1]) H) :
    FnP P w K mg base (k + 1) f fd x sp := by
  obtain ⟨oc, od, kV, doc, pm, an, cdv, ct, osl, rfl, lk, hcd⟩ := F.ex
  refine ⟨fun A outer s H args Q p hr hpin e0 hb hsp => ?_⟩
  have r : Vals [V.ref p.1] [Value.ref p.1] := .cons rfl .nil
  have KX : K.In s.heap := e0.mod.kin.keeps fun b o e => (e0.bs b o e).1
  have lim : s.heap.NoLimit := e0.mod.nolimit.keeps fun b o e => (e0.bs b o e).1
  have hkind : ∀ y ∈ [x].zip [Value.ref p.1], (defScope st).names.lookup y.1 = some .local ∨ ((defScope st).names.lookup y.1 = some .cell ∧ ((cellsFrom (s.heap.objs.size + 1) (defScope st).names []).lookup y.1).isSome = true) := fun ⟨n, v⟩ hy => by
    rcases S.par n (List.of_mem_zip hy).1 with q | q
    · exact .inl q
    · exact .inr ⟨q, PySem.W.cellsFrom_some _ _ _ (.inl q)⟩
  refine codeAny_call_function hr.depth (KX _ _ lk) rfl S.co S.gen rfl (PySem.W.codeRec_of KX hcd) (hb _ _ _ _ ?_)
  refine wpAny_newFunctionEnv_cells S.kind hkind fun env he s1 x1 => ?_
  subst he
  refine ⟨lim.keeps x1.toInCall.keep, codeAny_func ?_⟩
  obtain ⟨t, ht, hq⟩ := hbody cdv A outer s H Q p hsp
  have I : Inv (L2H.cxH CX0 P w K mg base N qual (defScope st) f cdv A outer s H E0 p) [] (L2.start N [.ref p.1]) H s1 := L2H.inv_startH S hpin e0 rfl r x1
  refine wpAny_mono (ht.run [] s1 (L2.start N [.ref p.1]) H _ I hq) (fun fl s' hs => ?_) fun e s' hs => hs
  have fin : ∀ {σ' : L2.St} {H' : Hp} {v : V} {u : Value}, Inv (L2H.cxH CX0 P w K mg base N qual (defScope st) f cdv A outer s H E0 p) [] σ' H' s' → RelV v u → Q v H' → CE outer P w H s Q u s' :=
    fun {σ' H' v u} J rv q => ⟨v, H', J.os, J.bare, J.base, J.hok, rv, q⟩
  cases fl with
  | ret u =>
    obtain ⟨v, σ', H', J, rv, q⟩ := hs
    exact fin J rv q
  | next =>
    obtain ⟨σ', H', J, q⟩ := hs
    exact fin (v := V.non) (u := Value.none) J rfl q
  | brk =>
    obtain ⟨_, _, _, q⟩ := hs
    exact False.elim q
  | cont =>
    obtain ⟨_, _, _, q⟩ := hs
    exact False.elim q
section
variable {X : Cx} {k i : Nat} {f : Addr} {fd : FuncData} {x x' : Str} {sp : Addr × Obj → Hp → VK → Prop} {q pos : Pos} {e : Expr} {p : Addr × Obj}
theorem pe_callP (hp : p ∈ X.pn) (F : FnP X.prog X.w X.K X.mg X.base k f fd x' sp) (hr : L2H.RoomH k X.A) (hm : X.mg x = some (.ref f)) (hk : PySem.W.keepIn X.K (.ref f) = true) (hb : Binds X.K fd [x'] []) (ha : PE X e (tVar i)) (hg : Gl X x := by rfl) (hdb : (x == ("__debug__" : Str)) = false := by decide)
    (he : starEach [e] X.env = (false, eval e X.env) :: starEach [] X.env := by rfl) (hpl : (backTo pos (starEach [] X.env)).any (·.1) = false := by rfl) :
    PE X (.Call (.Name x q) [e] [] pos) (fun σ H Q => σ[i]? = some (some (.ref p.1)) ∧ sp p H Q) := by
  refine ⟨fun pins s σ H Q I h => ?_⟩
  refine wpAny_Call_Name_kw (ld_glob I hg hm ?_ hdb)
  refine PySem.W.callWith_K (h₀ := X.base) I.ok.mod.kin hk (thn ((pa_cons ha pa_nil he).run pos pins s σ H (fun vs H1 => vs = [V.ref p.1] ∧ sp p H1 Q) I ⟨_, h.1, rfl, h.2⟩) fun us s1 ⟨vs, H1, I1, r, ev, qq⟩ => ⟨I1.kIn, ?_⟩) he hpl
  subst ev
  have eu : us = [Value.ref p.1] := by
    cases r with
    | cons rx rr =>
      cases rr
      cases rx
      rfl
  subst eu
  have b := hb s1 [Value.ref p.1] I1.kIn rfl
  rw [List.append_nil] at b
  have P1 := I1.pin p (List.mem_append_left _ hp)
  have hpin : L2H.PinOk X.stack H1 s1 p := ⟨P1.1, P1.2.1, fun hm => (List.mem_cons.mp (I1.stkSub p.1 hm)).elim P1.2.2.1 P1.2.2.2.1, P1.2.2.2.2⟩
  refine wpAny_call (codeAny_mono (F.run X.A X.stack s1 H1 ⟨[Value.ref p.1], []⟩ Q p hr hpin I1.env0 b qq) fun r s' hq => ?_)
  cases r with
  | error e => exact (show False from hq).elim
  | ok fl =>
    cases fl with
    | ret u => exact I1.after hq
    | next => exact False.elim hq
    | brk => exact False.elim hq
    | cont => exact False.elim hq
/-- isinstance(e, c), e an exception that the context knows -/
theorem call_isX {a D : Addr} {oe : Obj} (hp : (a, oe) ∈ X.pn) (C : ExcC X.K D) (hz : Zc (.ref D) none oe) (hf : ∃ vs, oe.data = .fields vs) : CallR X (.builtin "isinstance") (rIsE X.K D a) := by
  intro pins s σ H xs us Q I r h
  obtain ⟨c, cv, b, rfl, hcv, e, q⟩ := h
  cases r with
  | cons rx rr =>
    cases rr with
    | cons rt rr =>
      cases rr
      cases rx
      have ec := hcv _ rt
      subst ec
      obtain ⟨hget, _⟩ := I.pin (a, oe) (List.mem_append_left _ hp)
      obtain ⟨vs, hv⟩ := hf
      have J : PySem.W.InstAt s.heap a oe D none := by
        obtain ⟨oc, od, oda, osl⟩ := oe
        obtain ⟨h1, h2⟩ := hz
        dsimp only at h1 h2 hv
        subst h1 h2 hv
        exact ⟨hget, rfl, rfl, trivial⟩
      exact PySem.W.kia_one (PySem.W.handS_kitx_exc C.hg C.hk C.hs C.hd C.ha C.hn C.ht C.hm) I.kIn J e (fun z => nomatch z) fun tk => ⟨.bl b, H, I.kept (t' := tk) fun _ _ z => z, rfl, q⟩
/-- what is known in the body of such a def: its first name holds the exception -/
def tX (a : Addr) (v : V) : TE := fun σ H Q => σ[0]? = some (some (.ref a)) ∧ Q v H
variable {a C D : Addr} {oe : Obj} {b : Bool} {p1 p2 p3 : Pos} {n : Str}
theorem px_isi (hp : (a, oe) ∈ X.pn) (hC : ExcC X.K D) (hz : Zc (.ref D) none oe) (hf : ∃ vs, oe.data = .fields vs) (hm : X.mg "isinstance" = none) (hv : PE X (.Name n p2) (tVar 0)) (hmc : X.mg x = some (.ref C)) (hk : PySem.W.kitOne X.K (.ref D) (.ref C) = some b)
    (hg : Gl X "isinstance" := by rfl) (hgx : Gl X x := by rfl) (hd : (x == ("__debug__" : Str)) = false := by decide)
    (he : starEach [.Name n p2, .Name x p3] X.env = (false, eval (.Name n p2) X.env) :: starEach [.Name x p3] X.env := by rfl) (he2 : starEach [.Name x p3] X.env = (false, eval (.Name x p3) X.env) :: starEach [] X.env := by rfl) (hpl : (backTo pos (starEach [.Name x p3] X.env)).any (·.1) = false := by rfl) :
    PE X (.Call (.Name "isinstance" p1) [.Name n p2, .Name x p3] [] pos) (tX a (.bl b)) :=
  PE.of (pe_callB (call_isX hp hC hz hf) hg hm boot_isinstance (pa_cons hv (pa_cons (pe_glob (v := .ref C) hgx hmc rfl hd) pa_nil he2) he) (by decide) (by decide) he hpl) fun σ H Q ⟨hs, po⟩ =>
    ⟨.ref a, hs, .ref C, .ref C, b, rfl, fun u r => (show u = Value.ref C from r), hk, po⟩
theorem px_isiT {T : String} (hp : (a, oe) ∈ X.pn) (hC : ExcC X.K D) (hz : Zc (.ref D) none oe) (hf : ∃ vs, oe.data = .fields vs) (hm : X.mg "isinstance" = none) (hv : PE X (.Name n p2) (tVar 0)) (hmc : X.mg x = none) (hb : bootBuiltins x = some (.type T)) (hk : PySem.W.kitOne X.K (.ref D) (.type T) = some b)
    (hg : Gl X "isinstance" := by rfl) (hgx : Gl X x := by rfl) (hn : x ≠ "__name__" := by decide) (hd : (x == ("__debug__" : Str)) = false := by decide)
    (he : starEach [.Name n p2, .Name x p3] X.env = (false, eval (.Name n p2) X.env) :: starEach [.Name x p3] X.env := by rfl) (he2 : starEach [.Name x p3] X.env = (false, eval (.Name x p3) X.env) :: starEach [] X.env := by rfl) (hpl : (backTo pos (starEach [.Name x p3] X.env)).any (·.1) = false := by rfl) :
    PE X (.Call (.Name "isinstance" p1) [.Name n p2, .Name x p3] [] pos) (tX a (.bl b)) :=
  PE.of (pe_callB (call_isX hp hC hz hf) hg hm boot_isinstance (pa_cons hv (pa_cons (pe_bltn (v := .ty T) hgx hmc hb rfl hn hd) pa_nil he2) he) (by decide) (by decide) he hpl) fun σ H Q ⟨hs, po⟩ =>
    ⟨.ref a, hs, .ty T, .type T, b, rfl, fun u r => (show u = Value.type T from r), hk, po⟩
/-- list.count of a bool among bools -/
def rCountB (K : PySem.W.Frag) : V → List V → Hp → VK → Prop := fun x xs H Q => ∃ (a : Addr) (bs : List Bool) (k : Bool), x = V.ref a ∧ xs = [.bl k] ∧ H a = some (.lst (bs.map V.bl)) ∧ Q (.int (bs.count k : Nat)) H
end
theorem vals_bools {us : List Value} : ∀ {bs : List Bool}, Vals (bs.map V.bl) us → us = bs.map Value.bool := by
  intro bs
  induction bs generalizing us with
  | nil => intro r; cases r; rfl
  | cons b bs ih =>
    intro r
    cases r with
    | cons rx rr =>
      cases rx
      rw [ih rr]; rfl
theorem reads_bools (h : Heap) : ∀ bs : List Bool, ReadsAll h (bs.map Value.bool) (bs.map PyData.bool) []
  | [] => .nil
  | b :: bs => .cons (as := []) (bs := []) (.bool b) (reads_bools h bs)
theorem count_bools (k : Bool) : ∀ bs : List Bool, countIn (.bool k) (bs.map PyData.bool) = ((bs.count k : Nat) : Int)
  | [] => rfl
  | b :: bs => by
    rw [List.map_cons, countIn, count_bools k bs, List.count_cons]
    cases b <;> cases k <;> simp [same] <;> omega
theorem mt_countB {X : Cx} : MtR X "list.count" (rCountB X.K) := by
  intro pins s σ H x xs v us Q I rx rxs h
  obtain ⟨a, bs, k, rfl, rfl, hs, q⟩ := h
  cases rx
  cases rxs with
  | cons ry rt =>
    cases rt
    cases ry
    obtain ⟨its, rv, ⟨o, n, ho, hcl, hdn, hdt⟩, hlen⟩ := I.list (.inl (.inl hs))
    have e := vals_bools rv
    subst e
    refine count_list_bools (k := k) ⟨o, ho, hcl, n, hdt⟩ (reads_bools s.heap bs) (List.all_eq_true.mpr fun d hd => ?_) ?_
    · obtain ⟨b, _, rfl⟩ := List.mem_map.mp hd
      rfl
    · rw [count_bools]
      exact ⟨.int (bs.count k : Nat), H, I.tok _, ⟨_, rfl⟩, q⟩
/-! ### the class told by its number -/
def tWhich (K : PySem.W.Frag) (a : Addr) (b1 b2 b3 b4 : Bool) (tn : TS) : TS :=
  tSeq (tAsg (tLst (tCons (tX a (.bl b1)) (tCons (tX a (.bl b2)) (tCons (tX a (.bl b3)) (tCons (tX a (.bl b4)) tNil))))) (gName 1))
    (tSeq (tIfS (tOr (tNot (tB (tX a (.bl true)))) (tOr (tNot (tB (tX a (.bl true)))) (tTest (tOp rNe (tBM K "list" (rCountB K) (tVar 1) (tCons (tC (.bl true)) tNil)) (tC (.int 1)))))) tn tNext)
      (tRet (tBM K "list" (rIndex K) (tVar 1) (tCons (tC (.bl true)) tNil))))
theorem which_ok {K : PySem.W.Frag} {a : Addr} {b1 b2 b3 b4 : Bool} {tn : TS} {D : Ends} {H : Hp} {j : Nat} (hc : ([b1, b2, b3, b4] : List Bool).count true = 1) (hj : ([b1, b2, b3, b4] : List Bool)[j]? = some true) (hb : ∀ m, m < j → ([b1, b2, b3, b4] : List Bool)[m]? = some false)
    (q : ∀ H', Same H H' → D.rt (.int (j : Nat)) H') : tWhich K a b1 b2 b3 b4 tn D [some (.ref a), none] H := by
  refine ⟨rfl, rfl, rfl, rfl, by rw [sizeLine_eq]; exact Nat.le_of_ble_eq_true rfl, fun p np => ?_⟩
  have hp : (upd H p (.lst (([b1, b2, b3, b4] : List Bool).map V.bl))) p = some (.lst (([b1, b2, b3, b4] : List Bool).map V.bl)) := upd_same
  have sq : SqL K (upd H p (.lst (([b1, b2, b3, b4] : List Bool).map V.bl))) p (([b1, b2, b3, b4] : List Bool).map V.bl) := .inl (.inl hp)
  have sm : Same H (upd H p (.lst (([b1, b2, b3, b4] : List Bool).map V.bl))) := fun b u e => by rw [upd_ne (ne_of_none e np)]; exact e
  refine ⟨rfl, true, rfl, iteF ⟨rfl, true, rfl, iteF ⟨.ref p, rfl, .inl ⟨rfl, _, sq⟩, p, [b1, b2, b3, b4], true, rfl, rfl, hp, rfl, ?_⟩⟩⟩
  rw [hc]
  refine ⟨false, rfl, iteF ?_⟩
  refine ⟨.ref p, rfl, .inl ⟨rfl, _, sq⟩, p, _, .bl true, j, .bl true, rfl, rfl, sq, rfl, ?_, ?_, rfl, fun m z hm hz => ?_, q _ sm⟩
  · rfl
  · rw [List.getElem?_map, hj]; rfl
  · rw [List.getElem?_map, hb m hm] at hz
    cases hz
    rfl
def spE (C : Nat → Addr) : Addr × Obj → Hp → VK → Prop := fun p H Q => ∃ c : Nat, c < 4 ∧ Zc (.ref (C c)) none p.2 ∧ (∃ vs, p.2.data = .fields vs) ∧ ∀ H', Same H H' → Q (.int (c : Nat)) H'
theorem roomH_mark {k : Nat} {A : Around} {v : Option Value} (r : Room k A) : L2H.RoomH k (A.mark v) := ⟨r.dp, r.un⟩
section
variable {X : Cx} {cm : Nat → Value} {C : Nat → Addr} {k i c nr : Nat} {f a : Addr} {fd : FuncData} {x x' : Str} {q pos p2 : Pos} {e n : Str} {oe : Obj} {pn : List (Addr × Obj)}
theorem hd_which (F : FnP X.prog X.w X.K X.mg X.base k f fd x' (spE C)) (hr : Room k X.A) (hm : X.mg x = some (.ref f)) (hk : PySem.W.keepIn X.K (.ref f) = true) (hb : Binds X.K fd [x'] []) (hc : c < 4) (hz : Zc (.ref (C c)) none oe) (hf : ∃ vs, oe.data = .fields vs) (hv : PE (X.suite a ((a, oe) :: pn)) (.Name e p2) (tVar i))
    (hg : Gl X x := by rfl) (hdb : (x == ("__debug__" : Str)) = false := by decide) (he : starEach [.Name e p2] X.env = (false, eval (.Name e p2) X.env) :: starEach [] X.env := by rfl) (hpl : (backTo pos (starEach [] X.env)).any (·.1) = false := by rfl) :
    PE (X.suite a ((a, oe) :: pn)) (.Call (.Name x q) [.Name e p2] [] pos) (hD X.K cm nr i a (.int (c : Nat))) :=
  PE.of (pe_callP (X := X.suite a ((a, oe) :: pn)) (p := (a, oe)) List.mem_cons_self F (roomH_mark hr) hm hk hb hv hg hdb he hpl) fun σ H Q ⟨G, s, hs, po⟩ =>
    ⟨hs, c, hc, hz, hf, fun H' s' => (po.step (H1 := H') (G1 := G) ⟨s', Same.refl _, s.trans s', fun a o e => .inl ⟨o, e⟩⟩).scal (s.trans s') rfl rfl⟩
/-! ### a clause whose answer leans on the class -/
def hSF (K : PySem.W.Frag) (cm : Nat → Value) (nr i : Nat) (cs : List Nat) (d : Nat → Dt) : Addr → Value → Option Addr → TS := fun a cls od D σ H => ∃ (c : Nat) (σ0 : L2.St), c ∈ cs ∧ cls = cm c ∧ od = none ∧ σ = σ0.set i (some (.ref a)) ∧ ∃ H0 G0, Same H0 H ∧ Same G0 H0 ∧ ∀ v H', RetOk K nr H0 G0 (d c) v H' → D.rt v H'
theorem hs_retF {cs : List Nat} {d : Nat → Dt} (hi : X.N[i]? = some n) {er : Expr} (hC : ∀ c ∈ cs, ∃ D, cm c = .ref D ∧ ∀ a oe pn, Zc (.ref D) none oe → (∃ vs, oe.data = .fields vs) → PE (X.suite a ((a, oe) :: pn)) er (hD X.K cm nr i a (d c))) :
    ∀ (a : Addr) (oe : Obj) (cls : Value) (od : Option Addr) (pn : List (Addr × Obj)), Zc cls od oe → (∃ vs, oe.data = .fields vs) → PSs (X.suite a ((a, oe) :: pn)) [.Return (some er) pos] (hSF X.K cm nr i cs d a cls od) := by
  intro a oe cls od pn hz hf
  refine ⟨fun pins s σ H D I ⟨c, σ0, hc, e1, e2, e3, H0, G0, s0, g0, q⟩ => ?_⟩
  subst e2
  obtain ⟨Dc, eD, h⟩ := hC c hc
  rw [e1, eD] at hz
  have hlt : i < σ0.length := by
    have h1 := I.len
    rw [e3, List.length_set] at h1
    have h2 := (List.getElem?_eq_some_iff.mp hi).1
    have h3 : (X.suite a ((a, oe) :: pn)).N.length = X.N.length := rfl
    omega
  refine (pss_one (ps_ret (h a oe pn hz hf))).run pins s σ H D I ⟨G0, g0.trans s0, by rw [e3, List.getElem?_set_self hlt], fun v H' G' L st nd fr ow => q v H' ⟨G', L, ⟨s0.trans st.h, st.g, st.s, fun p o z => ?_⟩, nd, fun p hp => ⟨none_back s0 (fr p hp).1, (fr p hp).2⟩, ow⟩⟩
  rcases st.new p o z with w | w
  · exact .inl w
  · exact .inr (none_back s0 w)
def sTryF (dom : List Nat) (d : Nat → Dt) (mb : Ms) : Ms := fun Γ => match mb Γ with
  | .exc c => if decide (c ∈ dom) = true then .ret (d c) else .bad
  | r => r
variable {W : WX} {O O' : List Nat} {body : List Stmt} {h0 : ExceptHandler} {mb : Ms}
theorem ds_tryF {dom : List Nat} {cv : Value} {d : Nat → Dt} (hs : X.stack = X.env :: X.outer) (hf : X.env.frame = some X.env.locals) (hN : X.N.Nodup) (hi : X.N[i]? = some n) (hln : X.env.kindOf n = some .local) (tk : Takes X W)
    (hb : ∀ (W' : WX) (pn : List (Addr × Obj)) (xe : Value → Shared → Prop), Takes (X.tr pn xe) W' → PassesOwn (model X.prog X.w) X.A X.env xe → DSs (X.tr pn xe) cm W' nr O O' body mb)
    (hh : HdsA X n [h0] [(cv, hSF X.K cm nr i dom d)]) (hx : ∀ c ∈ dom, PySem.W.exmOne X.K (cm c) cv = some true) : DS X cm W nr O O' (.Try body [h0] [] [] pos) (sTryF dom d mb) := by
  refine PS.of (ps_try_asM (tb := fun W' => tS X.K cm W' nr O O' mb) hs hf hN hi hln tk hb hh) fun D σ H ⟨H0, G0, Γ, ⟨Ls, S, I⟩, po⟩ => ?_
  refine ⟨Hb S H, Vw H0 G0 S H, Γ, ⟨Ls, S, I.here⟩, ?_⟩
  unfold sTryF at po
  cases hq : mb Γ with
  | nx Γ' => rw [hq] at po; exact fun σ' H' J => po σ' H' (SI.back I J)
  | ret d => rw [hq] at po; exact fun v H' r => po v H' (RetOk.back I r)
  | bad => rw [hq] at po; exact po
  | exc c =>
    rw [hq] at po
    dsimp only at po
    by_cases hd : decide (c ∈ dom) = true
    · rw [if_pos hd] at po
      have hm := of_decide_eq_true hd
      exact fun σ' H' s => ⟨true, hx c hm, fun _ a _ => ⟨c, σ', hm, rfl, rfl, rfl, Hb S H, Vw H0 G0 S H, s, Vw.hb I, fun v H'' r => po v H'' (RetOk.back I r)⟩, fun h => Bool.noConfusion h⟩
    · rw [if_neg hd] at po; exact (show False from po).elim
end
end DL

set_option Elab.async false
set_option linter.all false
set_option maxRecDepth 100000
namespace DL
/-! mirrors, printed by gen.py of law_k11_refusals_apart -/
def b_flat : Ms :=
  (mSeq (sT 1 1 (mLst mNil))
    (mSeq (sFor [0, 1, 0] (mIL (mVar 0)) [2]
    (sT 1 1 (mBin fAdd (mVar 1) (mVar 2))))
    (sMove 1)))
def m_flat : List Dt → Res Dt := runF 3 b_flat

def b_is_square : Ms :=
  (sRet (mAnd (mChain (mC (.int 1)) (mCall fLen (mCons (mVar 0) mNil)) (mVar 1)) (mCall fAll (mCons (mLc (mIL (mVar 0)) [2] bYes (mBin fEq (mCall fLen (mCons (mVar 2) mNil)) (mCall fLen (mCons (mVar 0) mNil)))) mNil))))
def m_is_square : List Dt → Res Dt := runF 3 b_is_square

def b_check_board : Ms :=
  (mIf (bOr (bNot (mTest (mFnN m_is_square 2 (mCons (mVar 0) (mCons (mC (.int 12)) mNil))))) (mTest (mBin fNe (mCall fSorted (mCons (mFnN m_flat 1 (mCons (mVar 0) mNil)) mNil)) (mLstRg (mC (.int 1)) (mBin fAdd (mBin fMul (mCall fLen (mCons (mVar 0) mNil)) (mCall fLen (mCons (mVar 0) mNil))) (mC (.int 1))))))) (sRaise 0) mNext)
def m_check_board : List Dt → Res Dt := runF 1 b_check_board

def b_all_sums : Ms :=
  (mSeq (sT 1 0 (mCall fLen (mCons (mVar 0) mNil)))
    (mSeq (sT 2 1 (mLc (mIL (mVar 0)) [5] bYes (mCall fSum (mCons (mVar 5) mNil))))
    (mSeq (sT 3 1 (mLc (mIRg (mC (.int 0)) (mVar 1)) [6] bYes (mCall fSum (mCons (mLc (mIL (mVar 0)) [5] bYes (mBin fIx (mVar 5) (mVar 6))) mNil))))
    (mSeq (sT 4 1 (mLst (mCons (mCall fSum (mCons (mLc (mIRg (mC (.int 0)) (mVar 1)) [6] bYes (mBin fIx (mBin fIx (mVar 0) (mVar 6)) (mVar 6))) mNil)) (mCons (mCall fSum (mCons (mLc (mIRg (mC (.int 0)) (mVar 1)) [6] bYes (mBin fIx (mBin fIx (mVar 0) (mVar 6)) (mBin fSub (mBin fSub (mVar 1) (mC (.int 1))) (mVar 6)))) mNil)) mNil))))
    (sMoveT 2 3 4)))))
def m_all_sums : List Dt → Res Dt := runF 7 b_all_sums

def b_sums : Ms :=
  (mSeq (sExpr (mFn m_check_board 1 (mCons (mVar 0) mNil)))
    (sRet (mFnN m_all_sums 1 (mCons (mVar 0) mNil))))
def m_sums : List Dt → Res Dt := runF 1 b_sums

def b_one_sum : Ms :=
  (mSeq (sUnp [0, 0, 0, 0] [1, 2, 3] (mFnN m_all_sums 1 (mCons (mVar 0) mNil)))
    (sRet (mBin fEq (onIs (mBin fAdd (mBin fAdd (mVar 1) (mVar 2)) (mVar 3)) cLenS) (mC (.int 1)))))
def m_one_sum : List Dt → Res Dt := runF 4 b_one_sum

def b_check_open : Ms :=
  (mSeq (mIf (bNot (mTest (mFnN m_is_square 2 (mCons (mVar 0) (mCons (mC (.int 4)) mNil))))) (sRaise 0) mNext)
    (mSeq (sT 1 1 (mLc (mIL (mFnN m_flat 1 (mCons (mVar 0) mNil))) [3] (mTest (mBin fNe (mVar 3) (mC (.int 0)))) (mVar 3)))
    (mSeq (sT 2 0 (mCall fLen (mCons (mVar 0) mNil)))
    (mSeq (mIf (bOr (mTest (mBin fNe (onIs (mVar 1) cLenS) (mCall fLen (mCons (mVar 1) mNil)))) (bNot (mTest (mCall fAll (mCons (mLc (mIL (mVar 1)) [3] bYes (mChain (mC (.int 1)) (mVar 3) (mBin fMul (mVar 2) (mVar 2)))) mNil))))) (sRaise 0) mNext)
    (mIf (bAnd (mTest (mBin fEq (mVar 2) (mC (.int 4)))) (mTest (mBin fGt (mBin fSub (mBin fMul (mVar 2) (mVar 2)) (mCall fLen (mCons (mVar 1) mNil))) (mC (.int 6))))) (sRaise 3) mNext)))))
def m_check_open : List Dt → Res Dt := runF 4 b_check_open

def b_lines_of : Ms :=
  (mSeq (sT 1 1 (mLst mNil))
    (mSeq (sFor [0, 2, 0, 0, 0] (mIRg (mC (.int 0)) (mVar 0)) [2]
    (mSeq (sAppT 1 1 (mLc (mIRg (mC (.int 0)) (mVar 0)) [3] bYes (mBin fAdd (mBin fMul (mVar 2) (mVar 0)) (mVar 3))))
    (sAppT 1 1 (mLc (mIRg (mC (.int 0)) (mVar 0)) [4] bYes (mBin fAdd (mBin fMul (mVar 4) (mVar 0)) (mVar 2))))))
    (mSeq (sAppT 1 1 (mLc (mIRg (mC (.int 0)) (mVar 0)) [2] bYes (mBin fAdd (mBin fMul (mVar 2) (mVar 0)) (mVar 2))))
    (mSeq (sAppT 1 1 (mLc (mIRg (mC (.int 0)) (mVar 0)) [2] bYes (mBin fSub (mBin fSub (mBin fAdd (mBin fMul (mVar 2) (mVar 0)) (mVar 0)) (mC (.int 1))) (mVar 2))))
    (sMove 1)))))
def m_lines_of : List Dt → Res Dt := runF 5 b_lines_of

def b_still_like : Ms :=
  (mSeq (sFor [0, 0, 0, 0, 0, 0] (mIL (mVar 1)) [3]
    (mSeq (sT 4 1 (mLc (mIL (mVar 3)) [5] bYes (mBin fIx (mVar 0) (mVar 5))))
    (mIf (bAnd (mTest (mBin fNotIn (mC (.int 0)) (mVar 4))) (mTest (mBin fNe (mCall fSum (mCons (mVar 4) mNil)) (mVar 2)))) (sRet (mC (.bl false))) mNext)))
    (sRet (mC (.bl true))))
def m_still_like : List Dt → Res Dt := runF 6 b_still_like

def b_filled (mrec : List Dt → Res Dt) : Ms :=
  (mSeq (mIf (bNot (mTest (mFnN m_still_like 3 (mCons (mVar 0) (mCons (mVar 1) (mCons (mVar 2) mNil)))))) (sRet (mLst mNil)) mNext)
    (mSeq (mIf (mTest (mBin fNotIn (mC (.int 0)) (mVar 0))) (sRet (mLst (mCons (mVar 0) mNil))) mNext)
    (mSeq (sT 3 0 (mIndex (mVar 0) (mC (.int 0))))
    (mSeq (sT 4 1 (mLst mNil))
    (mSeq (sFor [0, 0, 0, 0, 0, 0] (mIRg (mC (.int 1)) (mBin fAdd (mCall fLen (mCons (mVar 0) mNil)) (mC (.int 1)))) [5]
    (mIf (mTest (mBin fNotIn (mVar 5) (mVar 0))) (sP [0, 0, 0, 0, 0, 0] 4 (mBin fAdd (mVar 4) (mFnN mrec 3 (mCons (mBin fAdd (mBin fAdd (mSl (mVar 0) oNone (oSome (mVar 3))) (mLst (mCons (mVar 5) mNil))) (mSl (mVar 0) (oSome (mBin fAdd (mVar 3) (mC (.int 1)))) oNone)) (mCons (mVar 1) (mCons (mVar 2) mNil)))))) mNext))
    (sRet (mVar 4)))))))
def m_filled : Nat → List Dt → Res Dt
  | 0 => fun _ => .bad
  | k + 1 => runF 6 (b_filled (m_filled k))

def b_fillings : Ms :=
  (mSeq (sExpr (mFn m_check_open 1 (mCons (mVar 0) mNil)))
    (mSeq (sT 1 0 (mCall fLen (mCons (mVar 0) mNil)))
    (mSeq (sT 2 0 (mBin fDiv (mBin fMul (mVar 1) (mBin fAdd (mBin fMul (mVar 1) (mVar 1)) (mC (.int 1)))) (mC (.int 2))))
    (mSeq (sT 3 1 (mLst mNil))
    (mSeq (sFor [0, 0, 0, 3, 0, 0, 0] (mIL (mFnN (m_filled 11) 3 (mCons (mFnN m_flat 1 (mCons (mVar 0) mNil)) (mCons (mFnN m_lines_of 1 (mCons (mVar 1) mNil)) (mCons (mVar 2) mNil))))) [4]
    (sAppT 3 2 (mLc (mIRg (mC (.int 0)) (mVar 1)) [6] bYes (mSl (mVar 4) (oSome (mBin fMul (mVar 6) (mVar 1))) (oSome (mBin fMul (mBin fAdd (mVar 6) (mC (.int 1))) (mVar 1)))))))
    (sRetSF 3 5 (mTest (mFnN m_one_sum 1 (mCons (mVar 5) mNil)))))))))
def m_fillings : List Dt → Res Dt := runF 7 b_fillings

def b_how_many : Ms :=
  (sRet (mCall fLen (mCons (mFn m_fillings 1 (mCons (mVar 0) mNil)) mNil)))
def m_how_many : List Dt → Res Dt := runF 1 b_how_many

def b_odd_board : Ms :=
  (mSeq (sT 1 2 (mLc (mIRg (mC (.int 0)) (mVar 0)) [7] bYes (mBin fMul (mLst (mCons (mC (.int 0)) mNil)) (mVar 0))))
    (mSeq (sT 2 0 (mC (.int 0)))
    (mSeq (sT 3 0 (mBin fDiv (mVar 0) (mC (.int 2))))
    (mSeq (sFor [0, 2, 0, 0, 0, 0, 0, 0] (mIRg (mC (.int 1)) (mBin fAdd (mBin fMul (mVar 0) (mVar 0)) (mC (.int 1)))) [4]
    (mSeq (sSet2 1 (mVar 4) (mVar 2) (mVar 3))
    (mSeq (sT 5 0 (mBin fMod (mBin fSub (mVar 2) (mC (.int 1))) (mVar 0)))
    (mSeq (sT 6 0 (mBin fMod (mBin fAdd (mVar 3) (mC (.int 1))) (mVar 0)))
    (mIf (mTest (mBin fEq (mBin fIx (mBin fIx (mVar 1) (mVar 5)) (mVar 6)) (mC (.int 0)))) (mSeq (sT 2 0 (mVar 5))
    (sT 3 0 (mVar 6))) (sT 2 0 (mBin fMod (mBin fAdd (mVar 2) (mC (.int 1))) (mVar 0))))))))
    (sMove 1)))))
def m_odd_board : List Dt → Res Dt := runF 8 b_odd_board

def b_fourfold_board : Ms :=
  (mSeq (sT 1 1 (mLst mNil))
    (mSeq (sFor [0, 2, 0, 0, 0, 0] (mIRg (mC (.int 0)) (mVar 0)) [2]
    (mSeq (sT 3 1 (mLst mNil))
    (mSeq (sFor [0, 2, 0, 1, 0, 0] (mIRg (mC (.int 0)) (mVar 0)) [4]
    (mSeq (sT 5 0 (mBin fAdd (mBin fAdd (mBin fMul (mVar 2) (mVar 0)) (mVar 4)) (mC (.int 1))))
    (mSeq (mIf (bOr (mTest (mBin fEq (mBin fMod (mVar 2) (mC (.int 4))) (mBin fMod (mVar 4) (mC (.int 4))))) (mTest (mBin fEq (mBin fAdd (mBin fMod (mVar 2) (mC (.int 4))) (mBin fMod (mVar 4) (mC (.int 4)))) (mC (.int 3))))) (sT 5 0 (mBin fSub (mBin fAdd (mBin fMul (mVar 0) (mVar 0)) (mC (.int 1))) (mVar 5))) mNext)
    (sAppT 3 0 (mVar 5)))))
    (sAppM 1 3))))
    (sMove 1)))
def m_fourfold_board : List Dt → Res Dt := runF 6 b_fourfold_board

def b_block_of : Ms :=
  (mSeq (sT 3 0 (mBin fDiv (mVar 2) (mC (.int 2))))
    (mSeq (sT 4 0 (mBin fLe (mVar 0) (mVar 3)))
    (mSeq (mIf (bAnd (mTest (mBin fEq (mVar 1) (mVar 3))) (bOr (mTest (mBin fEq (mVar 0) (mVar 3))) (mTest (mBin fEq (mVar 0) (mBin fAdd (mVar 3) (mC (.int 1))))))) (sT 4 0 (mBin fEq (mVar 0) (mBin fAdd (mVar 3) (mC (.int 1))))) mNext)
    (mSeq (mIf (mTest (mVar 4)) (sRet (mLst (mCons (mC (.int 4)) (mCons (mC (.int 1)) (mCons (mC (.int 2)) (mCons (mC (.int 3)) mNil)))))) mNext)
    (mSeq (mIf (mTest (mBin fLe (mVar 0) (mBin fAdd (mVar 3) (mC (.int 1))))) (sRet (mLst (mCons (mC (.int 1)) (mCons (mC (.int 4)) (mCons (mC (.int 2)) (mCons (mC (.int 3)) mNil)))))) mNext)
    (sRet (mLst (mCons (mC (.int 1)) (mCons (mC (.int 4)) (mCons (mC (.int 3)) (mCons (mC (.int 2)) mNil)))))))))))
def m_block_of : List Dt → Res Dt := runF 5 b_block_of

def b_twofold_board : Ms :=
  (mSeq (sT 1 0 (mBin fDiv (mVar 0) (mC (.int 2))))
    (mSeq (sT 2 2 (mFnN m_odd_board 1 (mCons (mVar 1) mNil)))
    (mSeq (sT 3 2 (mLc (mIRg (mC (.int 0)) (mVar 0)) [6] bYes (mBin fMul (mLst (mCons (mC (.int 0)) mNil)) (mVar 0))))
    (mSeq (sFor [0, 0, 0, 2, 0, 0, 0, 0] (mIRg (mC (.int 0)) (mVar 1)) [4]
    (sFor [0, 0, 0, 2, 0, 0, 0, 0] (mIRg (mC (.int 0)) (mVar 1)) [5]
    (mSeq (sT 7 1 (mFnN m_block_of 3 (mCons (mVar 4) (mCons (mVar 5) (mCons (mVar 1) mNil)))))
    (sFor [0, 0, 0, 2, 0, 0, 0, 0] (mIRg (mC (.int 0)) (mC (.int 4))) [6]
    (sSet2 3 (mBin fAdd (mBin fMul (mC (.int 4)) (mBin fSub (mBin fIx (mBin fIx (mVar 2) (mVar 4)) (mVar 5)) (mC (.int 1)))) (mBin fIx (mVar 7) (mVar 6))) (mBin fAdd (mBin fMul (mC (.int 2)) (mVar 4)) (mBin fDiv (mVar 6) (mC (.int 2)))) (mBin fAdd (mBin fMul (mC (.int 2)) (mVar 5)) (mBin fMod (mVar 6) (mC (.int 2)))))))))
    (sMove 3)))))
def m_twofold_board : List Dt → Res Dt := runF 8 b_twofold_board

def b_laid : Ms :=
  (mSeq (mIf (bOr (bNot (mTest (mChain (mC (.int 1)) (mVar 0) (mC (.int 12))))) (mTest (mBin fEq (mVar 0) (mC (.int 2))))) (sRaise 2) mNext)
    (mSeq (mIf (mTest (mBin fEq (mBin fMod (mVar 0) (mC (.int 2))) (mC (.int 1)))) (sRet (mFnN m_odd_board 1 (mCons (mVar 0) mNil))) mNext)
    (mSeq (mIf (mTest (mBin fEq (mBin fMod (mVar 0) (mC (.int 4))) (mC (.int 0)))) (sRet (mFnN m_fourfold_board 1 (mCons (mVar 0) mNil))) mNext)
    (sRet (mFnN m_twofold_board 1 (mCons (mVar 0) mNil))))))
def m_laid : List Dt → Res Dt := runF 1 b_laid

def b_turn : Ms :=
  (mSeq (sT 1 0 (mCall fLen (mCons (mVar 0) mNil)))
    (sRet (mLc (mIRg (mC (.int 0)) (mVar 1)) [2] bYes (mLc (mIRg (mC (.int 0)) (mVar 1)) [3] bYes (mBin fIx (mBin fIx (mVar 0) (mBin fSub (mBin fSub (mVar 1) (mC (.int 1))) (mVar 3))) (mVar 2))))))
def m_turn : List Dt → Res Dt := runF 4 b_turn

def b_kin : Ms :=
  (mSeq (sExpr (mFn m_check_board 1 (mCons (mVar 0) mNil)))
    (mSeq (sT 1 1 (mLst mNil))
    (mSeq (sP [0, 3, 0, 0, 0] 2 (mVar 0))
    (mSeq (sFor [0, 3, 0, 0, 0] (mIRg (mC (.int 0)) (mC (.int 4))) [3]
    (mSeq (sT 2 2 (mFnN m_turn 1 (mCons (mVar 2) mNil)))
    (mSeq (sAppT 1 2 (mLc (mIL (mVar 2)) [4] bYes (mCall fList (mCons (mVar 4) mNil))))
    (sAppT 1 2 (mLc (mIL (mVar 2)) [4] bYes (mUn fRev (mVar 4)))))))
    (sRetS 1)))))
def m_kin : List Dt → Res Dt := runF 5 b_kin

def b_is_fair : Ms :=
  (mSeq (mIf (mTest (mBin fNe (mCall fSorted (mCons (mVar 0) mNil)) (mLstRg (mC (.int 0)) (mVar 1)))) (sRet (mC (.bl false))) mNext)
    (sRet (mCall fAll (mCons (mLc (mIRg (mC (.int 0)) (mVar 1)) [2] bYes (mBin fEq (mBin fAdd (mBin fIx (mVar 0) (mVar 2)) (mBin fIx (mVar 0) (mBin fSub (mBin fSub (mVar 1) (mC (.int 1))) (mVar 2)))) (mBin fSub (mVar 1) (mC (.int 1))))) mNil))))
def m_is_fair : List Dt → Res Dt := runF 3 b_is_fair

def b_arranged : Ms :=
  (mSeq (sExpr (mFn m_check_board 1 (mCons (mVar 0) mNil)))
    (mSeq (mIf (bNot (mTest (mFnN m_is_fair 2 (mCons (mVar 1) (mCons (mCall fLen (mCons (mVar 0) mNil)) mNil))))) (sRaise 1) mNext)
    (sRet (mLc (mIL (mVar 1)) [2] bYes (mLc (mIL (mVar 1)) [3] bYes (mBin fIx (mBin fIx (mVar 0) (mVar 2)) (mVar 3)))))))
def m_arranged : List Dt → Res Dt := runF 4 b_arranged

def b_woven : Ms :=
  (mSeq (sExpr (mFn m_check_board 1 (mCons (mVar 0) mNil)))
    (mSeq (sExpr (mFn m_check_board 1 (mCons (mVar 1) mNil)))
    (mSeq (sT 2 0 (mCall fLen (mCons (mVar 1) mNil)))
    (mSeq (mIf (mTest (mBin fGt (mBin fMul (mCall fLen (mCons (mVar 0) mNil)) (mVar 2)) (mC (.int 12)))) (sRaise 2) mNext)
    (mSeq (sT 3 1 (mLst mNil))
    (mSeq (sFor [0, 0, 0, 2, 0, 0, 0] (mIRg (mC (.int 0)) (mBin fMul (mCall fLen (mCons (mVar 0) mNil)) (mVar 2))) [4]
    (mSeq (sT 5 1 (mLst mNil))
    (mSeq (sFor [0, 0, 0, 2, 0, 1, 0] (mIRg (mC (.int 0)) (mBin fMul (mCall fLen (mCons (mVar 0) mNil)) (mVar 2))) [6]
    (sAppT 5 0 (mBin fAdd (mBin fMul (mBin fMul (mBin fSub (mBin fIx (mBin fIx (mVar 0) (mBin fDiv (mVar 4) (mVar 2))) (mBin fDiv (mVar 6) (mVar 2))) (mC (.int 1))) (mVar 2)) (mVar 2)) (mBin fIx (mBin fIx (mVar 1) (mBin fMod (mVar 4) (mVar 2))) (mBin fMod (mVar 6) (mVar 2))))))
    (sAppM 3 5))))
    (sMove 3)))))))
def m_woven : List Dt → Res Dt := runF 7 b_woven

def b__law_cell_at : Ms :=
  (mSeq (mIf (mTest (mBin fLt (mVar 1) (mCall fLen (mCons (mVar 0) mNil)))) (sRet (mBin fIx (mVar 0) (mVar 1))) mNext)
    (sRet (mC (.int 0))))
def m__law_cell_at : List Dt → Res Dt := runF 2 b__law_cell_at

def b__law_met : Ms :=
  (mSeq (sT 1 2 (mLst (mCons (mLst (mCons (mC (.int 1)) (mCons (mC (.int 2)) (mCons (mC (.int 3)) (mCons (mC (.int 4)) mNil))))) (mCons (mLst (mCons (mC (.int 5)) (mCons (mC (.int 6)) (mCons (mC (.int 7)) (mCons (mC (.int 8)) mNil))))) (mCons (mLst (mCons (mC (.int 9)) (mCons (mC (.int 10)) (mCons (mC (.int 11)) (mCons (mC (.int 12)) mNil))))) (mCons (mLst (mCons (mC (.int 13)) (mCons (mC (.int 14)) (mCons (mC (.int 15)) (mCons (mC (.int 16)) mNil))))) mNil))))))
    (mSeq (sTryF [0, 1, 2, 3] (fun c => .int (c : Nat))
    (mIf (mTest (mBin fEq (mVar 0) (mC (.int 0)))) (sExpr (mFn m_sums 1 (mCons (mLst (mCons (mLst (mCons (mC (.int 1)) (mCons (mC (.int 2)) mNil))) (mCons (mLst (mCons (mC (.int 3)) mNil)) mNil))) mNil))) (mIf (mTest (mBin fEq (mVar 0) (mC (.int 1)))) (sExpr (mFn m_kin 1 (mCons (mLst mNil) mNil))) (mIf (mTest (mBin fEq (mVar 0) (mC (.int 2)))) (sExpr (mFn m_arranged 2 (mCons (mLst (mCons (mLst (mCons (mC (.int 1)) (mCons (mC (.int 1)) mNil))) (mCons (mLst (mCons (mC (.int 2)) (mCons (mC (.int 3)) mNil))) mNil))) (mCons (mLst (mCons (mC (.int 0)) (mCons (mC (.int 0)) mNil))) mNil)))) (mIf (mTest (mBin fEq (mVar 0) (mC (.int 3)))) (sExpr (mFn m_arranged 2 (mCons (mLst (mCons (mLst (mCons (mC (.int 1)) (mCons (mC (.int 2)) mNil))) (mCons (mLst (mCons (mC (.int 3)) (mCons (mC (.int 4)) mNil))) mNil))) (mCons (mLst (mCons (mC (.int 0)) (mCons (mC (.int 0)) mNil))) mNil)))) (mIf (mTest (mBin fEq (mVar 0) (mC (.int 4)))) (sExpr (mFn m_arranged 2 (mCons (mVar 1) (mCons (mLst (mCons (mC (.int 0)) (mCons (mC (.int 1)) (mCons (mC (.int 3)) (mCons (mC (.int 2)) mNil))))) mNil)))) (mIf (mTest (mBin fEq (mVar 0) (mC (.int 5)))) (sExpr (mFn m_laid 1 (mCons (mC (.int 2)) mNil))) (mIf (mTest (mBin fEq (mVar 0) (mC (.int 6)))) (sExpr (mFn m_woven 2 (mCons (mVar 1) (mCons (mVar 1) mNil)))) (mIf (mTest (mBin fEq (mVar 0) (mC (.int 7)))) (sExpr (mFn m_woven 2 (mCons (mVar 1) (mCons (mLst (mCons (mLst (mCons (mC (.int 2)) mNil)) mNil)) mNil)))) (mIf (mTest (mBin fEq (mVar 0) (mC (.int 8)))) (sExpr (mFn m_fillings 1 (mCons (mLst (mCons (mLst (mCons (mC (.int 0)) (mCons (mC (.int 0)) (mCons (mC (.int 0)) (mCons (mC (.int 0)) mNil))))) (mCons (mLst (mCons (mC (.int 0)) (mCons (mC (.int 0)) (mCons (mC (.int 0)) (mCons (mC (.int 0)) mNil))))) (mCons (mLst (mCons (mC (.int 1)) (mCons (mC (.int 2)) (mCons (mC (.int 3)) (mCons (mC (.int 4)) mNil))))) (mCons (mLst (mCons (mC (.int 5)) (mCons (mC (.int 6)) (mCons (mC (.int 7)) (mCons (mC (.int 8)) mNil))))) mNil))))) mNil))) (mIf (mTest (mBin fEq (mVar 0) (mC (.int 9)))) (sExpr (mFn m_how_many 1 (mCons (mLst (mCons (mLst (mCons (mC (.int 0)) (mCons (mC (.int 0)) (mCons (mC (.int 0)) (mCons (mC (.int 0)) mNil))))) (mCons (mLst (mCons (mC (.int 0)) (mCons (mC (.int 0)) (mCons (mC (.int 0)) (mCons (mC (.int 0)) mNil))))) (mCons (mLst (mCons (mC (.int 1)) (mCons (mC (.int 1)) (mCons (mC (.int 3)) (mCons (mC (.int 4)) mNil))))) (mCons (mLst (mCons (mC (.int 5)) (mCons (mC (.int 6)) (mCons (mC (.int 7)) (mCons (mC (.int 8)) mNil))))) mNil))))) mNil))) (sExpr (mFn m_how_many 1 (mCons (mLc (mIRg (mC (.int 0)) (mC (.int 5))) [3] bYes (mBin fMul (mLst (mCons (mC (.int 0)) mNil)) (mC (.int 5)))) mNil))))))))))))))
    (sRet (mC (.int 9)))))
def m__law_met : List Dt → Res Dt := runF 4 b__law_met

def p_law_0 : Ms :=
  (sT 1 0 (mBin fMod (mFnN m__law_cell_at 2 (mCons (mVar 0) (mCons (mC (.int 0)) mNil))) (mC (.int 11))))
def p_law_1 : Ms :=
  (sFor [0, 0, 0, 0] (mIRg (mC (.int 0)) (mC (.int 11))) [2]
    (mSeq (sP [0, 0, 0, 0] 3 (mBin fMod (mBin fAdd (mVar 1) (mVar 2)) (mC (.int 11))))
    (mIf (mTest (mBin fNe (mFnN m__law_met 1 (mCons (mVar 3) mNil)) (mBin fIx (mLst (mCons (mC (.int 0)) (mCons (mC (.int 0)) (mCons (mC (.int 0)) (mCons (mC (.int 1)) (mCons (mC (.int 1)) (mCons (mC (.int 2)) (mCons (mC (.int 2)) (mCons (mC (.int 0)) (mCons (mC (.int 3)) (mCons (mC (.int 0)) (mCons (mC (.int 0)) mNil)))))))))))) (mVar 3)))) (sRet (mC (.bl false))) mNext)))
def p_law_2 : Ms :=
  (sRet (mC (.bl true)))
def b_law : Ms :=
  (mSeq p_law_0
    (mSeq p_law_1
    p_law_2))
def m_law : List Dt → Res Dt := runF 4 b_law
end DL

set_option Elab.async false
set_option linter.all false
set_option maxRecDepth 100000
set_option maxHeartbeats 4000000
namespace DL
open PySem PySem.Spec PyProof.Rows L2
/-! derivations, printed by gen.py of law_k11_refusals_apart -/
def topS (i : Nat) : Stmt := PySem.Challenge.pw_likesums_k11_refusals_apart.main.body.getD i (.Pass ⟨0, 0, 0, 0⟩)
abbrev s_flat : Stmt := topS 8
abbrev N_flat : List Str := ["board", "found", "row"]
theorem sc_flat : FnScope N_flat ["board"] (defScope s_flat) := ⟨rfl, rfl, rfl, by decide +kernel, rfl, by decide +kernel, by decide +kernel⟩
abbrev s_is_square : Stmt := topS 9
abbrev N_is_square : List Str := ["board", "most", "row"]
theorem sc_is_square : FnScope N_is_square ["board", "most"] (defScope s_is_square) := ⟨rfl, rfl, rfl, by decide +kernel, rfl, by decide +kernel, by decide +kernel⟩
abbrev s_check_board : Stmt := topS 10
abbrev N_check_board : List Str := ["board"]
theorem sc_check_board : FnScope N_check_board ["board"] (defScope s_check_board) := ⟨rfl, rfl, rfl, by decide +kernel, rfl, by decide +kernel, by decide +kernel⟩
abbrev s_all_sums : Stmt := topS 11
abbrev N_all_sums : List Str := ["board", "size", "rows", "columns", "ways", "row", "k"]
theorem sc_all_sums : FnScope N_all_sums ["board"] (defScope s_all_sums) := ⟨rfl, rfl, rfl, by decide +kernel, rfl, by decide +kernel, by decide +kernel⟩
abbrev s_sums : Stmt := topS 12
abbrev N_sums : List Str := ["board"]
theorem sc_sums : FnScope N_sums ["board"] (defScope s_sums) := ⟨rfl, rfl, rfl, by decide +kernel, rfl, by decide +kernel, by decide +kernel⟩
abbrev s_one_sum : Stmt := topS 13
abbrev N_one_sum : List Str := ["board", "rows", "columns", "ways"]
theorem sc_one_sum : FnScope N_one_sum ["board"] (defScope s_one_sum) := ⟨rfl, rfl, rfl, by decide +kernel, rfl, by decide +kernel, by decide +kernel⟩
abbrev s_check_open : Stmt := topS 17
abbrev N_check_open : List Str := ["board", "given", "size", "number"]
theorem sc_check_open : FnScope N_check_open ["board"] (defScope s_check_open) := ⟨rfl, rfl, rfl, by decide +kernel, rfl, by decide +kernel, by decide +kernel⟩
abbrev s_lines_of : Stmt := topS 18
abbrev N_lines_of : List Str := ["size", "found", "k", "c", "r"]
theorem sc_lines_of : FnScope N_lines_of ["size"] (defScope s_lines_of) := ⟨rfl, rfl, rfl, by decide +kernel, rfl, by decide +kernel, by decide +kernel⟩
abbrev s_still_like : Stmt := topS 19
abbrev N_still_like : List Str := ["numbers", "lines", "due", "line", "some", "place"]
theorem sc_still_like : FnScope N_still_like ["numbers", "lines", "due"] (defScope s_still_like) := ⟨rfl, rfl, rfl, by decide +kernel, rfl, by decide +kernel, by decide +kernel⟩
abbrev s_filled : Stmt := topS 20
abbrev N_filled : List Str := ["numbers", "lines", "due", "place", "found", "number"]
theorem sc_filled : FnScope N_filled ["numbers", "lines", "due"] (defScope s_filled) := ⟨rfl, rfl, rfl, by decide +kernel, rfl, by decide +kernel, by decide +kernel⟩
abbrev s_fillings : Stmt := topS 21
abbrev N_fillings : List Str := ["board", "size", "due", "found", "numbers", "made", "k"]
theorem sc_fillings : FnScope N_fillings ["board"] (defScope s_fillings) := ⟨rfl, rfl, rfl, by decide +kernel, rfl, by decide +kernel, by decide +kernel⟩
abbrev s_how_many : Stmt := topS 22
abbrev N_how_many : List Str := ["board"]
theorem sc_how_many : FnScope N_how_many ["board"] (defScope s_how_many) := ⟨rfl, rfl, rfl, by decide +kernel, rfl, by decide +kernel, by decide +kernel⟩
abbrev s_odd_board : Stmt := topS 24
abbrev N_odd_board : List Str := ["size", "rows", "r", "c", "number", "up", "across", "k"]
theorem sc_odd_board : FnScope N_odd_board ["size"] (defScope s_odd_board) := ⟨rfl, rfl, rfl, by decide +kernel, rfl, by decide +kernel, by decide +kernel⟩
abbrev s_fourfold_board : Stmt := topS 25
abbrev N_fourfold_board : List Str := ["size", "rows", "r", "row", "c", "number"]
theorem sc_fourfold_board : FnScope N_fourfold_board ["size"] (defScope s_fourfold_board) := ⟨rfl, rfl, rfl, by decide +kernel, rfl, by decide +kernel, by decide +kernel⟩
abbrev s_block_of : Stmt := topS 26
abbrev N_block_of : List Str := ["r", "c", "half", "middle", "low"]
theorem sc_block_of : FnScope N_block_of ["r", "c", "half"] (defScope s_block_of) := ⟨rfl, rfl, rfl, by decide +kernel, rfl, by decide +kernel, by decide +kernel⟩
abbrev s_twofold_board : Stmt := topS 27
abbrev N_twofold_board : List Str := ["size", "half", "odd", "rows", "r", "c", "k", "block"]
theorem sc_twofold_board : FnScope N_twofold_board ["size"] (defScope s_twofold_board) := ⟨rfl, rfl, rfl, by decide +kernel, rfl, by decide +kernel, by decide +kernel⟩
abbrev s_laid : Stmt := topS 28
abbrev N_laid : List Str := ["size"]
theorem sc_laid : FnScope N_laid ["size"] (defScope s_laid) := ⟨rfl, rfl, rfl, by decide +kernel, rfl, by decide +kernel, by decide +kernel⟩
abbrev s_turn : Stmt := topS 30
abbrev N_turn : List Str := ["board", "size", "r", "c"]
theorem sc_turn : FnScope N_turn ["board"] (defScope s_turn) := ⟨rfl, rfl, rfl, by decide +kernel, rfl, by decide +kernel, by decide +kernel⟩
abbrev s_kin : Stmt := topS 31
abbrev N_kin : List Str := ["board", "found", "here", "k", "row"]
theorem sc_kin : FnScope N_kin ["board"] (defScope s_kin) := ⟨rfl, rfl, rfl, by decide +kernel, rfl, by decide +kernel, by decide +kernel⟩
abbrev s_is_fair : Stmt := topS 32
abbrev N_is_fair : List Str := ["order", "size", "k"]
theorem sc_is_fair : FnScope N_is_fair ["order", "size"] (defScope s_is_fair) := ⟨rfl, rfl, rfl, by decide +kernel, rfl, by decide +kernel, by decide +kernel⟩
abbrev s_arranged : Stmt := topS 33
abbrev N_arranged : List Str := ["board", "order", "one", "two"]
theorem sc_arranged : FnScope N_arranged ["board", "order"] (defScope s_arranged) := ⟨rfl, rfl, rfl, by decide +kernel, rfl, by decide +kernel, by decide +kernel⟩
abbrev s_woven : Stmt := topS 35
abbrev N_woven : List Str := ["outer", "inner", "many", "rows", "r", "row", "c"]
theorem sc_woven : FnScope N_woven ["outer", "inner"] (defScope s_woven) := ⟨rfl, rfl, rfl, by decide +kernel, rfl, by decide +kernel, by decide +kernel⟩
abbrev s__law_cell_at : Stmt := topS 37
abbrev N__law_cell_at : List Str := ["script", "k"]
theorem sc__law_cell_at : FnScope N__law_cell_at ["script", "k"] (defScope s__law_cell_at) := ⟨rfl, rfl, rfl, by decide +kernel, rfl, by decide +kernel, by decide +kernel⟩
abbrev s__law_which : Stmt := topS 38
abbrev N__law_which : List Str := ["e", "told"]
theorem sc__law_which : FnScope N__law_which ["e"] (defScope s__law_which) := ⟨rfl, rfl, rfl, by decide +kernel, rfl, by decide +kernel, by decide +kernel⟩
abbrev s__law_met : Stmt := topS 39
abbrev N__law_met : List Str := ["way", "four", "e", "k"]
theorem sc__law_met : FnScope N__law_met ["way"] (defScope s__law_met) := ⟨rfl, rfl, rfl, by decide +kernel, rfl, by decide +kernel, by decide +kernel⟩
abbrev s_law : Stmt := topS 40
abbrev N_law : List Str := ["script", "first", "k", "way"]
theorem sc_law : FnScope N_law ["script"] (defScope s_law) := ⟨rfl, rfl, rfl, by decide +kernel, rfl, by decide +kernel, by decide +kernel⟩
structure Txt (K : PySem.W.Frag) (mg : Str → Option Value) (C : Nat → Addr) (f : Nat → Addr) (fd : Nat → FuncData) (u : Nat → Value) : Prop where
  F_flat : Fun K "flat" "flat" s_flat (f 0) (fd 0)
  g_flat : mg "flat" = some (.ref (f 0))
  b_flat : Binds K (fd 0) ["board"] []
  F_is_square : Fun K "is_square" "is_square" s_is_square (f 1) (fd 1)
  g_is_square : mg "is_square" = some (.ref (f 1))
  b_is_square : Binds K (fd 1) ["board", "most"] []
  F_check_board : Fun K "check_board" "check_board" s_check_board (f 2) (fd 2)
  g_check_board : mg "check_board" = some (.ref (f 2))
  b_check_board : Binds K (fd 2) ["board"] []
  F_all_sums : Fun K "all_sums" "all_sums" s_all_sums (f 3) (fd 3)
  g_all_sums : mg "all_sums" = some (.ref (f 3))
  b_all_sums : Binds K (fd 3) ["board"] []
  F_sums : Fun K "sums" "sums" s_sums (f 4) (fd 4)
  g_sums : mg "sums" = some (.ref (f 4))
  b_sums : Binds K (fd 4) ["board"] []
  F_one_sum : Fun K "one_sum" "one_sum" s_one_sum (f 5) (fd 5)
  g_one_sum : mg "one_sum" = some (.ref (f 5))
  b_one_sum : Binds K (fd 5) ["board"] []
  F_check_open : Fun K "check_open" "check_open" s_check_open (f 6) (fd 6)
  g_check_open : mg "check_open" = some (.ref (f 6))
  b_check_open : Binds K (fd 6) ["board"] []
  F_lines_of : Fun K "lines_of" "lines_of" s_lines_of (f 7) (fd 7)
  g_lines_of : mg "lines_of" = some (.ref (f 7))
  b_lines_of : Binds K (fd 7) ["size"] []
  F_still_like : Fun K "still_like" "still_like" s_still_like (f 8) (fd 8)
  g_still_like : mg "still_like" = some (.ref (f 8))
  b_still_like : Binds K (fd 8) ["numbers", "lines", "due"] []
  F_filled : Fun K "filled" "filled" s_filled (f 9) (fd 9)
  g_filled : mg "filled" = some (.ref (f 9))
  b_filled : Binds K (fd 9) ["numbers", "lines", "due"] []
  F_fillings : Fun K "fillings" "fillings" s_fillings (f 10) (fd 10)
  g_fillings : mg "fillings" = some (.ref (f 10))
  b_fillings : Binds K (fd 10) ["board"] []
  F_how_many : Fun K "how_many" "how_many" s_how_many (f 11) (fd 11)
  g_how_many : mg "how_many" = some (.ref (f 11))
  b_how_many : Binds K (fd 11) ["board"] []
  F_odd_board : Fun K "odd_board" "odd_board" s_odd_board (f 12) (fd 12)
  g_odd_board : mg "odd_board" = some (.ref (f 12))
  b_odd_board : Binds K (fd 12) ["size"] []
  F_fourfold_board : Fun K "fourfold_board" "fourfold_board" s_fourfold_board (f 13) (fd 13)
  g_fourfold_board : mg "fourfold_board" = some (.ref (f 13))
  b_fourfold_board : Binds K (fd 13) ["size"] []
  F_block_of : Fun K "block_of" "block_of" s_block_of (f 14) (fd 14)
  g_block_of : mg "block_of" = some (.ref (f 14))
  b_block_of : Binds K (fd 14) ["r", "c", "half"] []
  F_twofold_board : Fun K "twofold_board" "twofold_board" s_twofold_board (f 15) (fd 15)
  g_twofold_board : mg "twofold_board" = some (.ref (f 15))
  b_twofold_board : Binds K (fd 15) ["size"] []
  F_laid : Fun K "laid" "laid" s_laid (f 16) (fd 16)
  g_laid : mg "laid" = some (.ref (f 16))
  b_laid : Binds K (fd 16) ["size"] []
  F_turn : Fun K "turn" "turn" s_turn (f 17) (fd 17)
  g_turn : mg "turn" = some (.ref (f 17))
  b_turn : Binds K (fd 17) ["board"] []
  F_kin : Fun K "kin" "kin" s_kin (f 18) (fd 18)
  g_kin : mg "kin" = some (.ref (f 18))
  b_kin : Binds K (fd 18) ["board"] []
  F_is_fair : Fun K "is_fair" "is_fair" s_is_fair (f 19) (fd 19)
  g_is_fair : mg "is_fair" = some (.ref (f 19))
  b_is_fair : Binds K (fd 19) ["order", "size"] []
  F_arranged : Fun K "arranged" "arranged" s_arranged (f 20) (fd 20)
  g_arranged : mg "arranged" = some (.ref (f 20))
  b_arranged : Binds K (fd 20) ["board", "order"] []
  F_woven : Fun K "woven" "woven" s_woven (f 21) (fd 21)
  g_woven : mg "woven" = some (.ref (f 21))
  b_woven : Binds K (fd 21) ["outer", "inner"] []
  F__law_cell_at : Fun K "_law_cell_at" "_law_cell_at" s__law_cell_at (f 22) (fd 22)
  g__law_cell_at : mg "_law_cell_at" = some (.ref (f 22))
  b__law_cell_at : Binds K (fd 22) ["script", "k"] []
  F__law_which : Fun K "_law_which" "_law_which" s__law_which (f 23) (fd 23)
  g__law_which : mg "_law_which" = some (.ref (f 23))
  b__law_which : Binds K (fd 23) ["e"] []
  F__law_met : Fun K "_law_met" "_law_met" s__law_met (f 24) (fd 24)
  g__law_met : mg "_law_met" = some (.ref (f 24))
  b__law_met : Binds K (fd 24) ["way"] []
  F_law : Fun K "law" "law" s_law (f 25) (fd 25)
  g_law : mg "law" = some (.ref (f 25))
  b_law : Binds K (fd 25) ["script"] []
  n_ValueError : mg "ValueError" = none
  n_all : mg "all" = none
  n_isinstance : mg "isinstance" = none
  n_len : mg "len" = none
  n_list : mg "list" = none
  n_range : mg "range" = none
  n_set : mg "set" = none
  n_sorted : mg "sorted" = none
  n_sum : mg "sum" = none
  k_MOST : mg "MOST" = some (u 0) ∧ RelV (.int 12) (u 0)
  k_MOST_SIZE : mg "MOST_SIZE" = some (u 1) ∧ RelV (.int 4) (u 1)
  k_MOST_OPEN : mg "MOST_OPEN" = some (u 2) ∧ RelV (.int 6) (u 2)
  c_SumError : mg "SumError" = some (.ref (C 9))
  kc_SumError : PySem.W.keepIn K (.ref (C 9)) = true
  bc_SumError : PySem.W.subIn K (.ref (C 9)) (.type "BaseException") = some true
  tc_SumError : PySem.W.typeIn K (.ref (C 9)) = some (.type "type")
  c_BadBoard : mg "BadBoard" = some (.ref (C 0))
  kc_BadBoard : PySem.W.keepIn K (.ref (C 0)) = true
  bc_BadBoard : PySem.W.subIn K (.ref (C 0)) (.type "BaseException") = some true
  tc_BadBoard : PySem.W.typeIn K (.ref (C 0)) = some (.type "type")
  xc_BadBoard : ExcC K (C 0)
  kv_BadBoard : PySem.W.kitOne K (.ref (C 0)) (.type "ValueError") = some true
  ks_BadBoard_SumError : PySem.W.kitOne K (.ref (C 0)) (.ref (C 9)) = some true
  em_BadBoard_SumError : PySem.W.exmOne K (.ref (C 0)) (.ref (C 9)) = some true
  ks_BadBoard_BadBoard : PySem.W.kitOne K (.ref (C 0)) (.ref (C 0)) = some true
  em_BadBoard_BadBoard : PySem.W.exmOne K (.ref (C 0)) (.ref (C 0)) = some true
  ks_BadBoard_BadOrder : PySem.W.kitOne K (.ref (C 0)) (.ref (C 1)) = some false
  em_BadBoard_BadOrder : PySem.W.exmOne K (.ref (C 0)) (.ref (C 1)) = some false
  ks_BadBoard_NoSize : PySem.W.kitOne K (.ref (C 0)) (.ref (C 2)) = some false
  em_BadBoard_NoSize : PySem.W.exmOne K (.ref (C 0)) (.ref (C 2)) = some false
  ks_BadBoard_TooOpen : PySem.W.kitOne K (.ref (C 0)) (.ref (C 3)) = some false
  em_BadBoard_TooOpen : PySem.W.exmOne K (.ref (C 0)) (.ref (C 3)) = some false
  x_BadBoard : PySem.W.excIn K (C 0) [.type "ValueError", .type "Exception", .type "BaseException", .type "object"] "ValueError.__new__" = true
  c_BadOrder : mg "BadOrder" = some (.ref (C 1))
  kc_BadOrder : PySem.W.keepIn K (.ref (C 1)) = true
  bc_BadOrder : PySem.W.subIn K (.ref (C 1)) (.type "BaseException") = some true
  tc_BadOrder : PySem.W.typeIn K (.ref (C 1)) = some (.type "type")
  xc_BadOrder : ExcC K (C 1)
  kv_BadOrder : PySem.W.kitOne K (.ref (C 1)) (.type "ValueError") = some true
  ks_BadOrder_SumError : PySem.W.kitOne K (.ref (C 1)) (.ref (C 9)) = some true
  em_BadOrder_SumError : PySem.W.exmOne K (.ref (C 1)) (.ref (C 9)) = some true
  ks_BadOrder_BadBoard : PySem.W.kitOne K (.ref (C 1)) (.ref (C 0)) = some false
  em_BadOrder_BadBoard : PySem.W.exmOne K (.ref (C 1)) (.ref (C 0)) = some false
  ks_BadOrder_BadOrder : PySem.W.kitOne K (.ref (C 1)) (.ref (C 1)) = some true
  em_BadOrder_BadOrder : PySem.W.exmOne K (.ref (C 1)) (.ref (C 1)) = some true
  ks_BadOrder_NoSize : PySem.W.kitOne K (.ref (C 1)) (.ref (C 2)) = some false
  em_BadOrder_NoSize : PySem.W.exmOne K (.ref (C 1)) (.ref (C 2)) = some false
  ks_BadOrder_TooOpen : PySem.W.kitOne K (.ref (C 1)) (.ref (C 3)) = some false
  em_BadOrder_TooOpen : PySem.W.exmOne K (.ref (C 1)) (.ref (C 3)) = some false
  x_BadOrder : PySem.W.excIn K (C 1) [.type "ValueError", .type "Exception", .type "BaseException", .type "object"] "ValueError.__new__" = true
  c_NoSize : mg "NoSize" = some (.ref (C 2))
  kc_NoSize : PySem.W.keepIn K (.ref (C 2)) = true
  bc_NoSize : PySem.W.subIn K (.ref (C 2)) (.type "BaseException") = some true
  tc_NoSize : PySem.W.typeIn K (.ref (C 2)) = some (.type "type")
  xc_NoSize : ExcC K (C 2)
  kv_NoSize : PySem.W.kitOne K (.ref (C 2)) (.type "ValueError") = some true
  ks_NoSize_SumError : PySem.W.kitOne K (.ref (C 2)) (.ref (C 9)) = some true
  em_NoSize_SumError : PySem.W.exmOne K (.ref (C 2)) (.ref (C 9)) = some true
  ks_NoSize_BadBoard : PySem.W.kitOne K (.ref (C 2)) (.ref (C 0)) = some false
  em_NoSize_BadBoard : PySem.W.exmOne K (.ref (C 2)) (.ref (C 0)) = some false
  ks_NoSize_BadOrder : PySem.W.kitOne K (.ref (C 2)) (.ref (C 1)) = some false
  em_NoSize_BadOrder : PySem.W.exmOne K (.ref (C 2)) (.ref (C 1)) = some false
  ks_NoSize_NoSize : PySem.W.kitOne K (.ref (C 2)) (.ref (C 2)) = some true
  em_NoSize_NoSize : PySem.W.exmOne K (.ref (C 2)) (.ref (C 2)) = some true
  ks_NoSize_TooOpen : PySem.W.kitOne K (.ref (C 2)) (.ref (C 3)) = some false
  em_NoSize_TooOpen : PySem.W.exmOne K (.ref (C 2)) (.ref (C 3)) = some false
  x_NoSize : PySem.W.excIn K (C 2) [.type "ValueError", .type "Exception", .type "BaseException", .type "object"] "ValueError.__new__" = true
  c_TooOpen : mg "TooOpen" = some (.ref (C 3))
  kc_TooOpen : PySem.W.keepIn K (.ref (C 3)) = true
  bc_TooOpen : PySem.W.subIn K (.ref (C 3)) (.type "BaseException") = some true
  tc_TooOpen : PySem.W.typeIn K (.ref (C 3)) = some (.type "type")
  xc_TooOpen : ExcC K (C 3)
  kv_TooOpen : PySem.W.kitOne K (.ref (C 3)) (.type "ValueError") = some true
  ks_TooOpen_SumError : PySem.W.kitOne K (.ref (C 3)) (.ref (C 9)) = some true
  em_TooOpen_SumError : PySem.W.exmOne K (.ref (C 3)) (.ref (C 9)) = some true
  ks_TooOpen_BadBoard : PySem.W.kitOne K (.ref (C 3)) (.ref (C 0)) = some false
  em_TooOpen_BadBoard : PySem.W.exmOne K (.ref (C 3)) (.ref (C 0)) = some false
  ks_TooOpen_BadOrder : PySem.W.kitOne K (.ref (C 3)) (.ref (C 1)) = some false
  em_TooOpen_BadOrder : PySem.W.exmOne K (.ref (C 3)) (.ref (C 1)) = some false
  ks_TooOpen_NoSize : PySem.W.kitOne K (.ref (C 3)) (.ref (C 2)) = some false
  em_TooOpen_NoSize : PySem.W.exmOne K (.ref (C 3)) (.ref (C 2)) = some false
  ks_TooOpen_TooOpen : PySem.W.kitOne K (.ref (C 3)) (.ref (C 3)) = some true
  em_TooOpen_TooOpen : PySem.W.exmOne K (.ref (C 3)) (.ref (C 3)) = some true
  x_TooOpen : PySem.W.excIn K (C 3) [.type "ValueError", .type "Exception", .type "BaseException", .type "object"] "ValueError.__new__" = true
abbrev cmOf (C : Nat → Addr) : Nat → Value := fun c => .ref (C c)
section
variable {P : Program} {w : World} {K : PySem.W.Frag} {mg : Str → Option Value} {base : Heap} {C f : Nat → Addr} {fd : Nat → FuncData} {u : Nat → Value}
theorem od_flat (T : Txt K mg C f fd u) (cdv : Value) (A : Around) (outer : List PySem.Env) (s : Shared) (H : Hp) (E : XK) (hr : Room 0 (A.deeper (envOfC "flat" (defScope s_flat) s.heap.objs.size (f 0) cdv))) :
    DSs (cxOf (L2.CX P w) P w K mg base N_flat "flat" (defScope s_flat) (f 0) cdv A outer s H E) (cmOf C) (fun cls d _ H => E cls d H) 1 [0, 0, 0] [0, 0, 0] (defBody s_flat) b_flat := by
  have hp := passes_of (X := cxOf (L2.CX P w) P w K mg base N_flat "flat" (defScope s_flat) (f 0) cdv A outer s H E) rfl
  have tk := takes_of (X := cxOf (L2.CX P w) P w K mg base N_flat "flat" (defScope s_flat) (f 0) cdv A outer s H E) (E := E) rfl rfl rfl rfl
  have px := fun σ => passAt tk σ
  exact (dss_cons (O1 := [0, 1, 0]) (ds_setT (k := 1) (n := 1) (asg_name (de_lst da_nil) sc_flat.nd rfl (Or.inl rfl)) (by decide) (Or.inr (by decide)))
    (dss_cons (O1 := [0, 1, 0]) (ds_for hp rfl (di_list (i := 2) (de_var (i := 0) (pv 0))) (pg_name (i := 2) sc_flat.nd rfl (Or.inl rfl))
    (dss_one (ds_setT (k := 1) (n := 1) (asg_name (de_add (by decide) (de_var (i := 1) (pv 1)) (de_var (i := 2) (pv 2))) sc_flat.nd rfl (Or.inl rfl)) (by decide) (Or.inr (by decide)))))
    (dss_one (ds_move (i := 1) (by exact pv 1)))))
theorem oe_flat (T : Txt K mg C f fd u) : FnOk P w K mg base (L2.CX P w) (0 + 1) (f 0) (fd 0) ["board"] (spD K (cmOf C) (["board"] : List Str).length 1 (runF N_flat.length b_flat)) :=
  okD (O := [0, 0, 0]) (O' := [0, 0, 0]) T.F_flat sc_flat (by rfl) (od_flat T)
theorem ok_flat (T : Txt K mg C f fd u) : FnOk P w K mg base (L2.CX P w) 1 (f 0) (fd 0) ["board"] (spD K (cmOf C) 1 1 m_flat) := oe_flat T
theorem od_is_square (T : Txt K mg C f fd u) (cdv : Value) (A : Around) (outer : List PySem.Env) (s : Shared) (H : Hp) (E : XK) (hr : Room 0 (A.deeper (envOfC "is_square" (defScope s_is_square) s.heap.objs.size (f 1) cdv))) :
    DSs (cxOf (L2.CX P w) P w K mg base N_is_square "is_square" (defScope s_is_square) (f 1) cdv A outer s H E) (cmOf C) (fun cls d _ H => E cls d H) 0 [0, 0, 0] [0, 0, 0] (defBody s_is_square) b_is_square := by
  have hp := passes_of (X := cxOf (L2.CX P w) P w K mg base N_is_square "is_square" (defScope s_is_square) (f 1) cdv A outer s H E) rfl
  have tk := takes_of (X := cxOf (L2.CX P w) P w K mg base N_is_square "is_square" (defScope s_is_square) (f 1) cdv A outer s H E) (E := E) rfl rfl rfl rfl
  have px := fun σ => passAt tk σ
  exact (dss_one (ds_ret (de_and (de_chain de_int (de_len T.n_len (de_var (i := 0) (pv 0))) (de_var (i := 1) (pv 1))) (de_one (de_all rfl T.n_all (de_zero (n := 1) (de_lc rfl sc_is_square.nd (di_list (i := 2) (de_var (i := 0) (pv 0))) (blkOk_by (N := N_is_square) (sc := (defScope s_is_square)) (own := [("row", 2)]) (by decide +kernel)) (by rfl) (fun _ _ _ _ _ => (pg_name (i := 2) sc_is_square.nd rfl (Or.inl rfl))) (fun _ _ _ _ _ => dts_nil) (fun _ _ _ _ _ => (de_eq (de_len T.n_len (de_var (i := 2) (pv 2))) (de_len T.n_len (de_var (i := 0) (pv 0))) (hu64 hr))))))))))
theorem oe_is_square (T : Txt K mg C f fd u) : FnOk P w K mg base (L2.CX P w) (0 + 1) (f 1) (fd 1) ["board", "most"] (spD K (cmOf C) (["board", "most"] : List Str).length 0 (runF N_is_square.length b_is_square)) :=
  okD (O := [0, 0, 0]) (O' := [0, 0, 0]) T.F_is_square sc_is_square (by rfl) (od_is_square T)
theorem ok_is_square (T : Txt K mg C f fd u) : FnOk P w K mg base (L2.CX P w) 1 (f 1) (fd 1) ["board", "most"] (spD K (cmOf C) 2 0 m_is_square) := oe_is_square T
theorem od_check_board (T : Txt K mg C f fd u) (cdv : Value) (A : Around) (outer : List PySem.Env) (s : Shared) (H : Hp) (E : XK) (hr : Room 1 (A.deeper (envOfC "check_board" (defScope s_check_board) s.heap.objs.size (f 2) cdv))) :
    DSs (cxOf (L2.CX P w) P w K mg base N_check_board "check_board" (defScope s_check_board) (f 2) cdv A outer s H E) (cmOf C) (fun cls d _ H => E cls d H) 0 [0] [0] (defBody s_check_board) b_check_board := by
  have hp := passes_of (X := cxOf (L2.CX P w) P w K mg base N_check_board "check_board" (defScope s_check_board) (f 2) cdv A outer s H E) rfl
  have tk := takes_of (X := cxOf (L2.CX P w) P w K mg base N_check_board "check_board" (defScope s_check_board) (f 2) cdv A outer s H E) (E := E) rfl rfl rfl rfl
  have px := fun σ => passAt tk σ
  exact (dss_one (ds_if (O' := [0]) (DW.dt (dw_or (dt_not (dt_val (de_fnN (ok_is_square T) (hr.mono (by decide)) T.g_is_square T.F_is_square.kp T.b_is_square (da_cons (de_var (i := 0) (pv 0)) (da_cons (de_glob (i := 12) rfl T.k_MOST.1 T.k_MOST.2) da_nil))))) (dw_or1 (dt_ne (de_sorted (by decide) T.n_sorted (de_zero (n := 1) (de_fnN (ok_flat T) (hr.mono (by decide)) T.g_flat T.F_flat.kp T.b_flat (da_cons (de_var (i := 0) (pv 0)) da_nil)))) (de_lstRg2 (by decide) rfl T.n_list T.n_range de_int (de_add (by decide) (de_mul (by decide) (de_len T.n_len (de_var (i := 0) (pv 0))) (de_len T.n_len (de_var (i := 0) (pv 0)))) de_int)) (hu64 hr))))) (dss_one (ds_raise rfl tk (pmk_own PySem.F.excBase_ValueError T.x_BadBoard T.c_BadBoard T.kc_BadBoard (raises_own T.bc_BadBoard T.tc_BadBoard) rfl) rfl)) dss_nil))
theorem oe_check_board (T : Txt K mg C f fd u) : FnOk P w K mg base (L2.CX P w) (1 + 1) (f 2) (fd 2) ["board"] (spD K (cmOf C) (["board"] : List Str).length 0 (runF N_check_board.length b_check_board)) :=
  okD (O := [0]) (O' := [0]) T.F_check_board sc_check_board (by rfl) (od_check_board T)
theorem ok_check_board (T : Txt K mg C f fd u) : FnOk P w K mg base (L2.CX P w) 2 (f 2) (fd 2) ["board"] (spD K (cmOf C) 1 0 m_check_board) := oe_check_board T
theorem od_all_sums (T : Txt K mg C f fd u) (cdv : Value) (A : Around) (outer : List PySem.Env) (s : Shared) (H : Hp) (E : XK) (hr : Room 0 (A.deeper (envOfC "all_sums" (defScope s_all_sums) s.heap.objs.size (f 3) cdv))) :
    DSs (cxOf (L2.CX P w) P w K mg base N_all_sums "all_sums" (defScope s_all_sums) (f 3) cdv A outer s H E) (cmOf C) (fun cls d _ H => E cls d H) 2 [0, 0, 0, 0, 0, 0, 0] [0, 0, 0, 0, 0, 0, 0] (defBody s_all_sums) b_all_sums := by
  have hp := passes_of (X := cxOf (L2.CX P w) P w K mg base N_all_sums "all_sums" (defScope s_all_sums) (f 3) cdv A outer s H E) rfl
  have tk := takes_of (X := cxOf (L2.CX P w) P w K mg base N_all_sums "all_sums" (defScope s_all_sums) (f 3) cdv A outer s H E) (E := E) rfl rfl rfl rfl
  have px := fun σ => passAt tk σ
  exact (dss_cons (O1 := [0, 0, 0, 0, 0, 0, 0]) (ds_setT (k := 0) (n := 0) (asg_name (de_len T.n_len (de_var (i := 0) (pv 0))) sc_all_sums.nd rfl (Or.inr rfl)) (by decide) (Or.inl rfl))
    (dss_cons (O1 := [0, 0, 1, 0, 0, 0, 0]) (ds_setT (k := 1) (n := 1) (asg_lc rfl sc_all_sums.nd rfl rfl (sw_true rfl rfl rfl (by decide +kernel)) (di_list (i := 5) (de_var (i := 0) (pv 0))) (blkOk_by (N := N_all_sums) (sc := (defScope s_all_sums)) (own := [("row", 5)]) (by decide +kernel)) (by rfl) (fun _ _ _ _ _ => (pg_name (i := 5) sc_all_sums.nd rfl (Or.inl rfl))) (fun _ _ _ _ _ => dts_nil) (fun _ _ _ _ _ => (de_sum rfl T.n_sum (de_var (i := 5) (pv 5))))) (by decide) (Or.inr (by decide)))
    (dss_cons (O1 := [0, 0, 1, 1, 0, 0, 0]) (ds_setT (k := 1) (n := 1) (asg_lc rfl sc_all_sums.nd rfl rfl (sw_true rfl rfl rfl (by decide +kernel)) (di_rg1 (i := 6) T.n_range (de_var (i := 1) (pv 1))) (blkOk_by (N := N_all_sums) (sc := (defScope s_all_sums)) (own := [("k", 6)]) (by decide +kernel)) (by rfl) (fun _ _ _ _ _ => (pg_name (i := 6) sc_all_sums.nd rfl (Or.inr rfl))) (fun _ _ _ _ _ => dts_nil) (fun _ _ _ _ _ => (de_sum rfl T.n_sum (de_zero (n := 1) (de_lc rfl sc_all_sums.nd (di_list (i := 5) (de_var (i := 0) (pv 0))) (blkOk_by (N := N_all_sums) (sc := (relS _ (defScope s_all_sums))) (own := [("row", 5)]) (by decide +kernel)) (by rfl) (fun _ _ _ _ _ => (pg_name (i := 5) sc_all_sums.nd rfl (Or.inl rfl))) (fun _ _ _ _ _ => dts_nil) (fun _ _ _ _ _ => (de_ix (de_var (i := 5) (pv 5)) (de_var (i := 6) (pv 6))))))))) (by decide) (Or.inr (by decide)))
    (dss_cons (O1 := [0, 0, 1, 1, 1, 0, 0]) (ds_setT (k := 1) (n := 1) (asg_name (de_lst (da_cons (de_sum rfl T.n_sum (de_zero (n := 1) (de_lc rfl sc_all_sums.nd (di_rg1 (i := 6) T.n_range (de_var (i := 1) (pv 1))) (blkOk_by (N := N_all_sums) (sc := (defScope s_all_sums)) (own := [("k", 6)]) (by decide +kernel)) (by rfl) (fun _ _ _ _ _ => (pg_name (i := 6) sc_all_sums.nd rfl (Or.inl rfl))) (fun _ _ _ _ _ => dts_nil) (fun _ _ _ _ _ => (de_ix (de_ix (de_var (i := 0) (pv 0)) (de_var (i := 6) (pv 6))) (de_var (i := 6) (pv 6))))))) (da_cons (de_sum rfl T.n_sum (de_zero (n := 1) (de_lc rfl sc_all_sums.nd (di_rg1 (i := 6) T.n_range (de_var (i := 1) (pv 1))) (blkOk_by (N := N_all_sums) (sc := (defScope s_all_sums)) (own := [("k", 6)]) (by decide +kernel)) (by rfl) (fun _ _ _ _ _ => (pg_name (i := 6) sc_all_sums.nd rfl (Or.inl rfl))) (fun _ _ _ _ _ => dts_nil) (fun _ _ _ _ _ => (de_ix (de_ix (de_var (i := 0) (pv 0)) (de_var (i := 6) (pv 6))) (de_sub (de_sub (de_var (i := 1) (pv 1)) de_int) (de_var (i := 6) (pv 6)))))))) da_nil))) sc_all_sums.nd rfl (Or.inl rfl)) (by decide) (Or.inr (by decide)))
    (dss_one (ds_moveT (i := 2) (j := 3) (l := 4) rfl rfl rfl (by decide) (by decide) (by decide) (by exact pv 2) (by exact pv 3) (by exact pv 4)))))))
theorem oe_all_sums (T : Txt K mg C f fd u) : FnOk P w K mg base (L2.CX P w) (0 + 1) (f 3) (fd 3) ["board"] (spD K (cmOf C) (["board"] : List Str).length 2 (runF N_all_sums.length b_all_sums)) :=
  okD (O := [0, 0, 0, 0, 0, 0, 0]) (O' := [0, 0, 0, 0, 0, 0, 0]) T.F_all_sums sc_all_sums (by rfl) (od_all_sums T)
theorem ok_all_sums (T : Txt K mg C f fd u) : FnOk P w K mg base (L2.CX P w) 1 (f 3) (fd 3) ["board"] (spD K (cmOf C) 1 2 m_all_sums) := oe_all_sums T
theorem od_sums (T : Txt K mg C f fd u) (cdv : Value) (A : Around) (outer : List PySem.Env) (s : Shared) (H : Hp) (E : XK) (hr : Room 2 (A.deeper (envOfC "sums" (defScope s_sums) s.heap.objs.size (f 4) cdv))) :
    DSs (cxOf (L2.CX P w) P w K mg base N_sums "sums" (defScope s_sums) (f 4) cdv A outer s H E) (cmOf C) (fun cls d _ H => E cls d H) 2 [0] [0] (defBody s_sums) b_sums := by
  have hp := passes_of (X := cxOf (L2.CX P w) P w K mg base N_sums "sums" (defScope s_sums) (f 4) cdv A outer s H E) rfl
  have tk := takes_of (X := cxOf (L2.CX P w) P w K mg base N_sums "sums" (defScope s_sums) (f 4) cdv A outer s H E) (E := E) rfl rfl rfl rfl
  have px := fun σ => passAt tk σ
  exact (dss_cons (O1 := [0]) (ds_expr (de_fn (ok_check_board T) (hr.mono (by decide)) T.g_check_board T.F_check_board.kp T.b_check_board px (da_cons (de_var (i := 0) (pv 0)) da_nil)))
    (dss_one (ds_ret (de_fnN (ok_all_sums T) (hr.mono (by decide)) T.g_all_sums T.F_all_sums.kp T.b_all_sums (da_cons (de_var (i := 0) (pv 0)) da_nil)))))
theorem oe_sums (T : Txt K mg C f fd u) : FnOk P w K mg base (L2.CX P w) (2 + 1) (f 4) (fd 4) ["board"] (spD K (cmOf C) (["board"] : List Str).length 2 (runF N_sums.length b_sums)) :=
  okD (O := [0]) (O' := [0]) T.F_sums sc_sums (by rfl) (od_sums T)
theorem ok_sums (T : Txt K mg C f fd u) : FnOk P w K mg base (L2.CX P w) 3 (f 4) (fd 4) ["board"] (spD K (cmOf C) 1 2 m_sums) := oe_sums T
theorem od_one_sum (T : Txt K mg C f fd u) (cdv : Value) (A : Around) (outer : List PySem.Env) (s : Shared) (H : Hp) (E : XK) (hr : Room 1 (A.deeper (envOfC "one_sum" (defScope s_one_sum) s.heap.objs.size (f 5) cdv))) :
    DSs (cxOf (L2.CX P w) P w K mg base N_one_sum "one_sum" (defScope s_one_sum) (f 5) cdv A outer s H E) (cmOf C) (fun cls d _ H => E cls d H) 0 [0, 0, 0, 0] [0, 0, 0, 0] (defBody s_one_sum) b_one_sum := by
  have hp := passes_of (X := cxOf (L2.CX P w) P w K mg base N_one_sum "one_sum" (defScope s_one_sum) (f 5) cdv A outer s H E) rfl
  have tk := takes_of (X := cxOf (L2.CX P w) P w K mg base N_one_sum "one_sum" (defScope s_one_sum) (f 5) cdv A outer s H E) (E := E) rfl rfl rfl rfl
  have px := fun σ => passAt tk σ
  exact (dss_cons (O1 := [0, 0, 0, 0]) (ds_unp3 (i := 1) (j := 2) (l := 3) (de_zero (n := 2) (de_fnN (ok_all_sums T) (hr.mono (by decide)) T.g_all_sums T.F_all_sums.kp T.b_all_sums (da_cons (de_var (i := 0) (pv 0)) da_nil))) (pg_tup rfl (pgs_cons (pg_name (i := 1) sc_one_sum.nd rfl (Or.inl rfl)) (pgs_cons (pg_name (i := 2) sc_one_sum.nd rfl (Or.inl rfl)) (pgs_cons (pg_name (i := 3) sc_one_sum.nd rfl (Or.inl rfl)) pgs_nil)))))
    (dss_one (ds_ret (de_eq (de_lenSet rfl T.n_len T.n_set (de_add (by decide) (de_add (by decide) (de_var (i := 1) (pv 1)) (de_var (i := 2) (pv 2))) (de_var (i := 3) (pv 3)))) de_int (hu64 hr)))))
theorem oe_one_sum (T : Txt K mg C f fd u) : FnOk P w K mg base (L2.CX P w) (1 + 1) (f 5) (fd 5) ["board"] (spD K (cmOf C) (["board"] : List Str).length 0 (runF N_one_sum.length b_one_sum)) :=
  okD (O := [0, 0, 0, 0]) (O' := [0, 0, 0, 0]) T.F_one_sum sc_one_sum (by rfl) (od_one_sum T)
theorem ok_one_sum (T : Txt K mg C f fd u) : FnOk P w K mg base (L2.CX P w) 2 (f 5) (fd 5) ["board"] (spD K (cmOf C) 1 0 m_one_sum) := oe_one_sum T
theorem od_check_open (T : Txt K mg C f fd u) (cdv : Value) (A : Around) (outer : List PySem.Env) (s : Shared) (H : Hp) (E : XK) (hr : Room 1 (A.deeper (envOfC "check_open" (defScope s_check_open) s.heap.objs.size (f 6) cdv))) :
    DSs (cxOf (L2.CX P w) P w K mg base N_check_open "check_open" (defScope s_check_open) (f 6) cdv A outer s H E) (cmOf C) (fun cls d _ H => E cls d H) 0 [0, 0, 0, 0] [0, 0, 0, 0] (defBody s_check_open) b_check_open := by
  have hp := passes_of (X := cxOf (L2.CX P w) P w K mg base N_check_open "check_open" (defScope s_check_open) (f 6) cdv A outer s H E) rfl
  have tk := takes_of (X := cxOf (L2.CX P w) P w K mg base N_check_open "check_open" (defScope s_check_open) (f 6) cdv A outer s H E) (E := E) rfl rfl rfl rfl
  have px := fun σ => passAt tk σ
  exact (dss_cons (O1 := [0, 0, 0, 0]) (ds_if (O' := [0, 0, 0, 0]) (dt_not (dt_val (de_fnN (ok_is_square T) (hr.mono (by decide)) T.g_is_square T.F_is_square.kp T.b_is_square (da_cons (de_var (i := 0) (pv 0)) (da_cons (de_glob (i := 4) rfl T.k_MOST_SIZE.1 T.k_MOST_SIZE.2) da_nil))))) (dss_one (ds_raise rfl tk (pmk_own PySem.F.excBase_ValueError T.x_BadBoard T.c_BadBoard T.kc_BadBoard (raises_own T.bc_BadBoard T.tc_BadBoard) rfl) rfl)) dss_nil)
    (dss_cons (O1 := [0, 0, 0, 0]) (ds_setT (k := 1) (n := 0) (asg_lc rfl sc_check_open.nd rfl rfl (sw_true rfl rfl rfl (by decide +kernel)) (di_list (i := 3) (de_zero (n := 1) (de_fnN (ok_flat T) (hr.mono (by decide)) T.g_flat T.F_flat.kp T.b_flat (da_cons (de_var (i := 0) (pv 0)) da_nil)))) (blkOk_by (N := N_check_open) (sc := (defScope s_check_open)) (own := [("number", 3)]) (by decide +kernel)) (by rfl) (fun _ _ _ _ _ => (pg_name (i := 3) sc_check_open.nd rfl (Or.inl rfl))) (fun _ _ _ _ _ => dts_one (dt_ne (de_var (i := 3) (pv 3)) de_int (hu64 hr))) (fun _ _ _ _ _ => (de_var (i := 3) (pv 3)))) (by decide) (Or.inl rfl))
    (dss_cons (O1 := [0, 0, 0, 0]) (ds_setT (k := 0) (n := 0) (asg_name (de_len T.n_len (de_var (i := 0) (pv 0))) sc_check_open.nd rfl (Or.inr rfl)) (by decide) (Or.inl rfl))
    (dss_cons (O1 := [0, 0, 0, 0]) (ds_if (O' := [0, 0, 0, 0]) (DW.dt (dw_or (dt_ne (de_lenSet rfl T.n_len T.n_set (de_var (i := 1) (pv 1))) (de_len T.n_len (de_var (i := 1) (pv 1))) (hu64 hr)) (dw_or1 (dt_not (dt_val (de_all rfl T.n_all (de_zero (n := 1) (de_lc rfl sc_check_open.nd (di_list (i := 3) (de_var (i := 1) (pv 1))) (blkOk_by (N := N_check_open) (sc := (defScope s_check_open)) (own := [("number", 3)]) (by decide +kernel)) (by rfl) (fun _ _ _ _ _ => (pg_name (i := 3) sc_check_open.nd rfl (Or.inl rfl))) (fun _ _ _ _ _ => dts_nil) (fun _ _ _ _ _ => (de_chain de_int (de_var (i := 3) (pv 3)) (de_mul (by decide) (de_var (i := 2) (pv 2)) (de_var (i := 2) (pv 2))))))))))))) (dss_one (ds_raise rfl tk (pmk_own PySem.F.excBase_ValueError T.x_BadBoard T.c_BadBoard T.kc_BadBoard (raises_own T.bc_BadBoard T.tc_BadBoard) rfl) rfl)) dss_nil)
    (dss_one (ds_if (O' := [0, 0, 0, 0]) (DW.dt (dw_and (dt_eq (de_var (i := 2) (pv 2)) (de_glob (i := 4) rfl T.k_MOST_SIZE.1 T.k_MOST_SIZE.2) (hu64 hr)) (dw_and1 (dt_gt (de_sub (de_mul (by decide) (de_var (i := 2) (pv 2)) (de_var (i := 2) (pv 2))) (de_len T.n_len (de_var (i := 1) (pv 1)))) (de_glob (i := 6) rfl T.k_MOST_OPEN.1 T.k_MOST_OPEN.2))))) (dss_one (ds_raise rfl tk (pmk_own PySem.F.excBase_ValueError T.x_TooOpen T.c_TooOpen T.kc_TooOpen (raises_own T.bc_TooOpen T.tc_TooOpen) rfl) rfl)) dss_nil))))))
theorem oe_check_open (T : Txt K mg C f fd u) : FnOk P w K mg base (L2.CX P w) (1 + 1) (f 6) (fd 6) ["board"] (spD K (cmOf C) (["board"] : List Str).length 0 (runF N_check_open.length b_check_open)) :=
  okD (O := [0, 0, 0, 0]) (O' := [0, 0, 0, 0]) T.F_check_open sc_check_open (by rfl) (od_check_open T)
theorem ok_check_open (T : Txt K mg C f fd u) : FnOk P w K mg base (L2.CX P w) 2 (f 6) (fd 6) ["board"] (spD K (cmOf C) 1 0 m_check_open) := oe_check_open T
theorem od_lines_of (T : Txt K mg C f fd u) (cdv : Value) (A : Around) (outer : List PySem.Env) (s : Shared) (H : Hp) (E : XK) (hr : Room 0 (A.deeper (envOfC "lines_of" (defScope s_lines_of) s.heap.objs.size (f 7) cdv))) :
    DSs (cxOf (L2.CX P w) P w K mg base N_lines_of "lines_of" (defScope s_lines_of) (f 7) cdv A outer s H E) (cmOf C) (fun cls d _ H => E cls d H) 2 [0, 0, 0, 0, 0] [0, 0, 0, 0, 0] (defBody s_lines_of) b_lines_of := by
  have hp := passes_of (X := cxOf (L2.CX P w) P w K mg base N_lines_of "lines_of" (defScope s_lines_of) (f 7) cdv A outer s H E) rfl
  have tk := takes_of (X := cxOf (L2.CX P w) P w K mg base N_lines_of "lines_of" (defScope s_lines_of) (f 7) cdv A outer s H E) (E := E) rfl rfl rfl rfl
  have px := fun σ => passAt tk σ
  exact (dss_cons (O1 := [0, 2, 0, 0, 0]) (ds_setT (k := 1) (n := 2) (asg_name (de_lst da_nil) sc_lines_of.nd rfl (Or.inl rfl)) (by decide) (Or.inr (by decide)))
    (dss_cons (O1 := [0, 2, 0, 0, 0]) (ds_for hp rfl (di_rg1 (i := 2) T.n_range (de_var (i := 0) (pv 0))) (pg_name (i := 2) sc_lines_of.nd rfl (Or.inr rfl))
    (dss_cons (O1 := [0, 2, 0, 0, 0]) (ds_appT (i := 1) (n := 1) (k := 1) rfl (by decide) (by exact pe_bm PySem.F.plainAttrs_list PySem.F.slot_list_append PySem.F.type_list_append mt_append (pv 1) (pa_cons (de_lc rfl sc_lines_of.nd (di_rg1 (i := 3) T.n_range (de_var (i := 0) (pv 0))) (blkOk_by (N := N_lines_of) (sc := (defScope s_lines_of)) (own := [("c", 3)]) (by decide +kernel)) (by rfl) (fun _ _ _ _ _ => (pg_name (i := 3) sc_lines_of.nd rfl (Or.inl rfl))) (fun _ _ _ _ _ => dts_nil) (fun _ _ _ _ _ => (de_add (by decide) (de_mul (by decide) (de_var (i := 2) (pv 2)) (de_var (i := 0) (pv 0))) (de_var (i := 3) (pv 3))))) pa_nil)))
    (dss_one (ds_appT (i := 1) (n := 1) (k := 1) rfl (by decide) (by exact pe_bm PySem.F.plainAttrs_list PySem.F.slot_list_append PySem.F.type_list_append mt_append (pv 1) (pa_cons (de_lc rfl sc_lines_of.nd (di_rg1 (i := 4) T.n_range (de_var (i := 0) (pv 0))) (blkOk_by (N := N_lines_of) (sc := (defScope s_lines_of)) (own := [("r", 4)]) (by decide +kernel)) (by rfl) (fun _ _ _ _ _ => (pg_name (i := 4) sc_lines_of.nd rfl (Or.inl rfl))) (fun _ _ _ _ _ => dts_nil) (fun _ _ _ _ _ => (de_add (by decide) (de_mul (by decide) (de_var (i := 4) (pv 4)) (de_var (i := 0) (pv 0))) (de_var (i := 2) (pv 2))))) pa_nil))))))
    (dss_cons (O1 := [0, 2, 0, 0, 0]) (ds_appT (i := 1) (n := 1) (k := 1) rfl (by decide) (by exact pe_bm PySem.F.plainAttrs_list PySem.F.slot_list_append PySem.F.type_list_append mt_append (pv 1) (pa_cons (de_lc rfl sc_lines_of.nd (di_rg1 (i := 2) T.n_range (de_var (i := 0) (pv 0))) (blkOk_by (N := N_lines_of) (sc := (defScope s_lines_of)) (own := [("k", 2)]) (by decide +kernel)) (by rfl) (fun _ _ _ _ _ => (pg_name (i := 2) sc_lines_of.nd rfl (Or.inl rfl))) (fun _ _ _ _ _ => dts_nil) (fun _ _ _ _ _ => (de_add (by decide) (de_mul (by decide) (de_var (i := 2) (pv 2)) (de_var (i := 0) (pv 0))) (de_var (i := 2) (pv 2))))) pa_nil)))
    (dss_cons (O1 := [0, 2, 0, 0, 0]) (ds_appT (i := 1) (n := 1) (k := 1) rfl (by decide) (by exact pe_bm PySem.F.plainAttrs_list PySem.F.slot_list_append PySem.F.type_list_append mt_append (pv 1) (pa_cons (de_lc rfl sc_lines_of.nd (di_rg1 (i := 2) T.n_range (de_var (i := 0) (pv 0))) (blkOk_by (N := N_lines_of) (sc := (defScope s_lines_of)) (own := [("k", 2)]) (by decide +kernel)) (by rfl) (fun _ _ _ _ _ => (pg_name (i := 2) sc_lines_of.nd rfl (Or.inl rfl))) (fun _ _ _ _ _ => dts_nil) (fun _ _ _ _ _ => (de_sub (de_sub (de_add (by decide) (de_mul (by decide) (de_var (i := 2) (pv 2)) (de_var (i := 0) (pv 0))) (de_var (i := 0) (pv 0))) de_int) (de_var (i := 2) (pv 2))))) pa_nil)))
    (dss_one (ds_move (i := 1) (by exact pv 1)))))))
theorem oe_lines_of (T : Txt K mg C f fd u) : FnOk P w K mg base (L2.CX P w) (0 + 1) (f 7) (fd 7) ["size"] (spD K (cmOf C) (["size"] : List Str).length 2 (runF N_lines_of.length b_lines_of)) :=
  okD (O := [0, 0, 0, 0, 0]) (O' := [0, 0, 0, 0, 0]) T.F_lines_of sc_lines_of (by rfl) (od_lines_of T)
theorem ok_lines_of (T : Txt K mg C f fd u) : FnOk P w K mg base (L2.CX P w) 1 (f 7) (fd 7) ["size"] (spD K (cmOf C) 1 2 m_lines_of) := oe_lines_of T
theorem od_still_like (T : Txt K mg C f fd u) (cdv : Value) (A : Around) (outer : List PySem.Env) (s : Shared) (H : Hp) (E : XK) (hr : Room 0 (A.deeper (envOfC "still_like" (defScope s_still_like) s.heap.objs.size (f 8) cdv))) :
    DSs (cxOf (L2.CX P w) P w K mg base N_still_like "still_like" (defScope s_still_like) (f 8) cdv A outer s H E) (cmOf C) (fun cls d _ H => E cls d H) 0 [0, 0, 0, 0, 0, 0] [0, 0, 0, 0, 0, 0] (defBody s_still_like) b_still_like := by
  have hp := passes_of (X := cxOf (L2.CX P w) P w K mg base N_still_like "still_like" (defScope s_still_like) (f 8) cdv A outer s H E) rfl
  have tk := takes_of (X := cxOf (L2.CX P w) P w K mg base N_still_like "still_like" (defScope s_still_like) (f 8) cdv A outer s H E) (E := E) rfl rfl rfl rfl
  have px := fun σ => passAt tk σ
  exact (dss_cons (O1 := [0, 0, 0, 0, 0, 0]) (ds_for hp rfl (di_list (i := 3) (de_var (i := 1) (pv 1))) (pg_name (i := 3) sc_still_like.nd rfl (Or.inl rfl))
    (dss_cons (O1 := [0, 0, 0, 0, 0, 0]) (ds_setT (k := 1) (n := 0) (asg_lc rfl sc_still_like.nd rfl rfl (sw_true rfl rfl rfl (by decide +kernel)) (di_list (i := 5) (de_var (i := 3) (pv 3))) (blkOk_by (N := N_still_like) (sc := (defScope s_still_like)) (own := [("place", 5)]) (by decide +kernel)) (by rfl) (fun _ _ _ _ _ => (pg_name (i := 5) sc_still_like.nd rfl (Or.inl rfl))) (fun _ _ _ _ _ => dts_nil) (fun _ _ _ _ _ => (de_ix (de_var (i := 0) (pv 0)) (de_var (i := 5) (pv 5))))) (by decide) (Or.inl rfl))
    (dss_one (ds_if (O' := [0, 0, 0, 0, 0, 0]) (DW.dt (dw_and (dt_notIn de_int (de_var (i := 4) (pv 4)) (hu65 hr)) (dw_and1 (dt_ne (de_sum rfl T.n_sum (de_var (i := 4) (pv 4))) (de_var (i := 2) (pv 2)) (hu64 hr))))) (dss_one (ds_ret de_bl)) dss_nil))))
    (dss_one (ds_ret de_bl)))
theorem oe_still_like (T : Txt K mg C f fd u) : FnOk P w K mg base (L2.CX P w) (0 + 1) (f 8) (fd 8) ["numbers", "lines", "due"] (spD K (cmOf C) (["numbers", "lines", "due"] : List Str).length 0 (runF N_still_like.length b_still_like)) :=
  okD (O := [0, 0, 0, 0, 0, 0]) (O' := [0, 0, 0, 0, 0, 0]) T.F_still_like sc_still_like (by rfl) (od_still_like T)
theorem ok_still_like (T : Txt K mg C f fd u) : FnOk P w K mg base (L2.CX P w) 1 (f 8) (fd 8) ["numbers", "lines", "due"] (spD K (cmOf C) 3 0 m_still_like) := oe_still_like T
theorem od_filled (T : Txt K mg C f fd u) (k : Nat) (mrec : List Dt → Res Dt) (ih : FnOk P w K mg base (L2.CX P w) (1 + k) (f 9) (fd 9) ["numbers", "lines", "due"] (spD K (cmOf C) 3 0 mrec)) (cdv : Value) (A : Around) (outer : List PySem.Env) (s : Shared) (H : Hp) (E : XK) (hr : Room (1 + k) (A.deeper (envOfC "filled" (defScope s_filled) s.heap.objs.size (f 9) cdv))) :
    DSs (cxOf (L2.CX P w) P w K mg base N_filled "filled" (defScope s_filled) (f 9) cdv A outer s H E) (cmOf C) (fun cls d _ H => E cls d H) 0 [0, 0, 0, 0, 0, 0] [0, 0, 0, 0, 0, 0] (defBody s_filled) (b_filled mrec) := by
  have hp := passes_of (X := cxOf (L2.CX P w) P w K mg base N_filled "filled" (defScope s_filled) (f 9) cdv A outer s H E) rfl
  have tk := takes_of (X := cxOf (L2.CX P w) P w K mg base N_filled "filled" (defScope s_filled) (f 9) cdv A outer s H E) (E := E) rfl rfl rfl rfl
  have px := fun σ => passAt tk σ
  exact (dss_cons (O1 := [0, 0, 0, 0, 0, 0]) (ds_if (O' := [0, 0, 0, 0, 0, 0]) (dt_not (dt_val (de_fnN (ok_still_like T) (hr.mono (by omega)) T.g_still_like T.F_still_like.kp T.b_still_like (da_cons (de_var (i := 0) (pv 0)) (da_cons (de_var (i := 1) (pv 1)) (da_cons (de_var (i := 2) (pv 2)) da_nil)))))) (dss_one (ds_ret (de_zero (n := 1) (de_lst da_nil)))) dss_nil)
    (dss_cons (O1 := [0, 0, 0, 0, 0, 0]) (ds_if (O' := [0, 0, 0, 0, 0, 0]) (dt_notIn de_int (de_var (i := 0) (pv 0)) (hu65 hr)) (dss_one (ds_ret (de_zero (n := 1) (de_lst (da_cons (de_var (i := 0) (pv 0)) da_nil))))) dss_nil)
    (dss_cons (O1 := [0, 0, 0, 0, 0, 0]) (ds_setT (k := 0) (n := 0) (asg_name (de_index (by exact pe_bm PySem.F.plainAttrs_list PySem.F.slot_list_index PySem.F.type_list_index mt_index (de_var (i := 0) (pv 0)) (pa_cons de_int pa_nil))) sc_filled.nd rfl (Or.inl rfl)) (by decide) (Or.inl rfl))
    (dss_cons (O1 := [0, 0, 0, 0, 0, 0]) (ds_setT (k := 1) (n := 0) (asg_name (de_lst da_nil) sc_filled.nd rfl (Or.inl rfl)) (by decide) (Or.inl rfl))
    (dss_cons (O1 := [0, 0, 0, 0, 0, 0]) (ds_for hp rfl (di_rg2 (i := 5) T.n_range de_int (de_add (by decide) (de_len T.n_len (de_var (i := 0) (pv 0))) de_int)) (pg_name (i := 5) sc_filled.nd rfl (Or.inl rfl))
    (dss_one (ds_if (O' := [0, 0, 0, 0, 0, 0]) (dt_notIn (de_var (i := 5) (pv 5)) (de_var (i := 0) (pv 0)) (hu65 hr)) (dss_one (ds_setP (n := 0) (asg_name (de_add (by decide) (de_var (i := 4) (pv 4)) (de_fnN ih hr T.g_filled T.F_filled.kp T.b_filled (da_cons (de_add (by decide) (de_add (by decide) (de_sl (by decide) (de_var (i := 0) (pv 0)) do_none (do_some (de_var (i := 3) (pv 3)))) (de_zero (n := 1) (de_lst (da_cons (de_var (i := 5) (pv 5)) da_nil)))) (de_sl (by decide) (de_var (i := 0) (pv 0)) (do_some (de_add (by decide) (de_var (i := 3) (pv 3)) de_int)) do_none)) (da_cons (de_var (i := 1) (pv 1)) (da_cons (de_var (i := 2) (pv 2)) da_nil))))) sc_filled.nd rfl (Or.inl rfl)) (by decide))) dss_nil)))
    (dss_one (ds_ret (de_var (i := 4) (pv 4)))))))))
theorem ok_filled (T : Txt K mg C f fd u) : ∀ k : Nat, FnOk P w K mg base (L2.CX P w) (1 + k) (f 9) (fd 9) ["numbers", "lines", "due"] (spD K (cmOf C) 3 0 (m_filled k))
  | 0 => fn_bad rfl
  | k + 1 => okD (N := N_filled) (O := [0, 0, 0, 0, 0, 0]) (O' := [0, 0, 0, 0, 0, 0]) T.F_filled sc_filled (by rfl) (od_filled T k (m_filled k) (ok_filled T k))
theorem od_fillings (T : Txt K mg C f fd u) (cdv : Value) (A : Around) (outer : List PySem.Env) (s : Shared) (H : Hp) (E : XK) (hr : Room 13 (A.deeper (envOfC "fillings" (defScope s_fillings) s.heap.objs.size (f 10) cdv))) :
    DSs (cxOf (L2.CX P w) P w K mg base N_fillings "fillings" (defScope s_fillings) (f 10) cdv A outer s H E) (cmOf C) (fun cls d _ H => E cls d H) 3 [0, 0, 0, 0, 0, 0, 0] [0, 0, 0, 0, 0, 0, 0] (defBody s_fillings) b_fillings := by
  have hp := passes_of (X := cxOf (L2.CX P w) P w K mg base N_fillings "fillings" (defScope s_fillings) (f 10) cdv A outer s H E) rfl
  have tk := takes_of (X := cxOf (L2.CX P w) P w K mg base N_fillings "fillings" (defScope s_fillings) (f 10) cdv A outer s H E) (E := E) rfl rfl rfl rfl
  have px := fun σ => passAt tk σ
  exact (dss_cons (O1 := [0, 0, 0, 0, 0, 0, 0]) (ds_expr (de_fn (ok_check_open T) (hr.mono (by decide)) T.g_check_open T.F_check_open.kp T.b_check_open px (da_cons (de_var (i := 0) (pv 0)) da_nil)))
    (dss_cons (O1 := [0, 0, 0, 0, 0, 0, 0]) (ds_setT (k := 0) (n := 0) (asg_name (de_len T.n_len (de_var (i := 0) (pv 0))) sc_fillings.nd rfl (Or.inr rfl)) (by decide) (Or.inl rfl))
    (dss_cons (O1 := [0, 0, 0, 0, 0, 0, 0]) (ds_setT (k := 0) (n := 0) (asg_name (de_fdiv (de_mul (by decide) (de_var (i := 1) (pv 1)) (de_add (by decide) (de_mul (by decide) (de_var (i := 1) (pv 1)) (de_var (i := 1) (pv 1))) de_int)) de_int) sc_fillings.nd rfl (Or.inl rfl)) (by decide) (Or.inl rfl))
    (dss_cons (O1 := [0, 0, 0, 3, 0, 0, 0]) (ds_setT (k := 1) (n := 3) (asg_name (de_lst da_nil) sc_fillings.nd rfl (Or.inl rfl)) (by decide) (Or.inr (by decide)))
    (dss_cons (O1 := [0, 0, 0, 3, 0, 0, 0]) (ds_for hp rfl (di_list (i := 4) (de_fnN (ok_filled T 11) (hr.mono (by decide)) T.g_filled T.F_filled.kp T.b_filled (da_cons (de_zero (n := 1) (de_fnN (ok_flat T) (hr.mono (by decide)) T.g_flat T.F_flat.kp T.b_flat (da_cons (de_var (i := 0) (pv 0)) da_nil))) (da_cons (de_zero (n := 2) (de_fnN (ok_lines_of T) (hr.mono (by decide)) T.g_lines_of T.F_lines_of.kp T.b_lines_of (da_cons (de_var (i := 1) (pv 1)) da_nil))) (da_cons (de_var (i := 2) (pv 2)) da_nil))))) (pg_name (i := 4) sc_fillings.nd rfl (Or.inr rfl))
    (dss_one (ds_appT (i := 3) (n := 2) (k := 2) rfl (by decide) (by exact pe_bm PySem.F.plainAttrs_list PySem.F.slot_list_append PySem.F.type_list_append mt_append (pv 3) (pa_cons (de_lc rfl sc_fillings.nd (di_rg1 (i := 6) T.n_range (de_var (i := 1) (pv 1))) (blkOk_by (N := N_fillings) (sc := (defScope s_fillings)) (own := [("k", 6)]) (by decide +kernel)) (by rfl) (fun _ _ _ _ _ => (pg_name (i := 6) sc_fillings.nd rfl (Or.inl rfl))) (fun _ _ _ _ _ => dts_nil) (fun _ _ _ _ _ => (de_sl (by decide) (de_var (i := 4) (pv 4)) (do_some (de_mul (by decide) (de_var (i := 6) (pv 6)) (de_var (i := 1) (pv 1)))) (do_some (de_mul (by decide) (de_add (by decide) (de_var (i := 6) (pv 6)) de_int) (de_var (i := 1) (pv 1))))))) pa_nil)))))
    (dss_one (ds_retSF (i := 3) (j := 5) (n := 2) rfl (hu65 hr) T.n_sorted rfl sc_fillings.nd (by exact pv 3) (blkOk_by (N := N_fillings) (sc := (defScope s_fillings)) (own := [("made", 5)]) (by decide +kernel)) (by rfl) (fun _ _ _ _ _ => (pg_name (i := 5) sc_fillings.nd rfl (Or.inl rfl))) (fun _ _ _ _ _ => dts_one (dt_val (de_fnN (ok_one_sum T) (hr.mono (by decide)) T.g_one_sum T.F_one_sum.kp T.b_one_sum (da_cons (de_var (i := 5) (pv 5)) da_nil)))) (fun _ _ _ _ _ => by exact pv 5))))))))
theorem oe_fillings (T : Txt K mg C f fd u) : FnOk P w K mg base (L2.CX P w) (13 + 1) (f 10) (fd 10) ["board"] (spD K (cmOf C) (["board"] : List Str).length 3 (runF N_fillings.length b_fillings)) :=
  okD (O := [0, 0, 0, 0, 0, 0, 0]) (O' := [0, 0, 0, 0, 0, 0, 0]) T.F_fillings sc_fillings (by rfl) (od_fillings T)
theorem ok_fillings (T : Txt K mg C f fd u) : FnOk P w K mg base (L2.CX P w) 14 (f 10) (fd 10) ["board"] (spD K (cmOf C) 1 3 m_fillings) := oe_fillings T
theorem od_how_many (T : Txt K mg C f fd u) (cdv : Value) (A : Around) (outer : List PySem.Env) (s : Shared) (H : Hp) (E : XK) (hr : Room 14 (A.deeper (envOfC "how_many" (defScope s_how_many) s.heap.objs.size (f 11) cdv))) :
    DSs (cxOf (L2.CX P w) P w K mg base N_how_many "how_many" (defScope s_how_many) (f 11) cdv A outer s H E) (cmOf C) (fun cls d _ H => E cls d H) 0 [0] [0] (defBody s_how_many) b_how_many := by
  have hp := passes_of (X := cxOf (L2.CX P w) P w K mg base N_how_many "how_many" (defScope s_how_many) (f 11) cdv A outer s H E) rfl
  have tk := takes_of (X := cxOf (L2.CX P w) P w K mg base N_how_many "how_many" (defScope s_how_many) (f 11) cdv A outer s H E) (E := E) rfl rfl rfl rfl
  have px := fun σ => passAt tk σ
  exact (dss_one (ds_ret (de_len T.n_len (de_zero (n := 3) (de_fn (ok_fillings T) (hr.mono (by decide)) T.g_fillings T.F_fillings.kp T.b_fillings px (da_cons (de_var (i := 0) (pv 0)) da_nil))))))
theorem oe_how_many (T : Txt K mg C f fd u) : FnOk P w K mg base (L2.CX P w) (14 + 1) (f 11) (fd 11) ["board"] (spD K (cmOf C) (["board"] : List Str).length 0 (runF N_how_many.length b_how_many)) :=
  okD (O := [0]) (O' := [0]) T.F_how_many sc_how_many (by rfl) (od_how_many T)
theorem ok_how_many (T : Txt K mg C f fd u) : FnOk P w K mg base (L2.CX P w) 15 (f 11) (fd 11) ["board"] (spD K (cmOf C) 1 0 m_how_many) := oe_how_many T
theorem od_odd_board (T : Txt K mg C f fd u) (cdv : Value) (A : Around) (outer : List PySem.Env) (s : Shared) (H : Hp) (E : XK) (hr : Room 0 (A.deeper (envOfC "odd_board" (defScope s_odd_board) s.heap.objs.size (f 12) cdv))) :
    DSs (cxOf (L2.CX P w) P w K mg base N_odd_board "odd_board" (defScope s_odd_board) (f 12) cdv A outer s H E) (cmOf C) (fun cls d _ H => E cls d H) 2 [0, 0, 0, 0, 0, 0, 0, 0] [0, 0, 0, 0, 0, 0, 0, 0] (defBody s_odd_board) b_odd_board := by
  have hp := passes_of (X := cxOf (L2.CX P w) P w K mg base N_odd_board "odd_board" (defScope s_odd_board) (f 12) cdv A outer s H E) rfl
  have tk := takes_of (X := cxOf (L2.CX P w) P w K mg base N_odd_board "odd_board" (defScope s_odd_board) (f 12) cdv A outer s H E) (E := E) rfl rfl rfl rfl
  have px := fun σ => passAt tk σ
  exact (dss_cons (O1 := [0, 2, 0, 0, 0, 0, 0, 0]) (ds_setT (k := 2) (n := 2) (asg_lc rfl sc_odd_board.nd rfl rfl (sw_true rfl rfl rfl (by decide +kernel)) (di_rg1 (i := 7) T.n_range (de_var (i := 0) (pv 0))) (blkOk_by (N := N_odd_board) (sc := (defScope s_odd_board)) (own := [("k", 7)]) (by decide +kernel)) (by rfl) (fun _ _ _ _ _ => (pg_name (i := 7) sc_odd_board.nd rfl (Or.inl rfl))) (fun _ _ _ _ _ => dts_nil) (fun _ _ _ _ _ => (de_mul (by decide) (de_zero (n := 1) (de_lst (da_cons de_int da_nil))) (de_var (i := 0) (pv 0))))) (by decide) (Or.inr (by decide)))
    (dss_cons (O1 := [0, 2, 0, 0, 0, 0, 0, 0]) (ds_setT (k := 0) (n := 0) (asg_name de_int sc_odd_board.nd rfl (Or.inl rfl)) (by decide) (Or.inl rfl))
    (dss_cons (O1 := [0, 2, 0, 0, 0, 0, 0, 0]) (ds_setT (k := 0) (n := 0) (asg_name (de_fdiv (de_var (i := 0) (pv 0)) de_int) sc_odd_board.nd rfl (Or.inl rfl)) (by decide) (Or.inl rfl))
    (dss_cons (O1 := [0, 2, 0, 0, 0, 0, 0, 0]) (ds_for hp rfl (di_rg2 (i := 4) T.n_range de_int (de_add (by decide) (de_mul (by decide) (de_var (i := 0) (pv 0)) (de_var (i := 0) (pv 0))) de_int)) (pg_name (i := 4) sc_odd_board.nd rfl (Or.inl rfl))
    (dss_cons (O1 := [0, 2, 0, 0, 0, 0, 0, 0]) (ds_set2 (i := 1) (n := 0) rfl (de_var (i := 4) (pv 4)) (by exact pg_sub (pe_ix ix_seq (pv 1) (de_var (i := 2) (pv 2)) (fun _ _ => rfl)) (de_var (i := 3) (pv 3)) set_list))
    (dss_cons (O1 := [0, 2, 0, 0, 0, 0, 0, 0]) (ds_setT (k := 0) (n := 0) (asg_name (de_mod (de_sub (de_var (i := 2) (pv 2)) de_int) (de_var (i := 0) (pv 0))) sc_odd_board.nd rfl (Or.inl rfl)) (by decide) (Or.inl rfl))
    (dss_cons (O1 := [0, 2, 0, 0, 0, 0, 0, 0]) (ds_setT (k := 0) (n := 0) (asg_name (de_mod (de_add (by decide) (de_var (i := 3) (pv 3)) de_int) (de_var (i := 0) (pv 0))) sc_odd_board.nd rfl (Or.inl rfl)) (by decide) (Or.inl rfl))
    (dss_one (ds_if (O' := [0, 2, 0, 0, 0, 0, 0, 0]) (dt_eq (de_ix (de_ix (de_var (i := 1) (pv 1)) (de_var (i := 5) (pv 5))) (de_var (i := 6) (pv 6))) de_int (hu64 hr)) (dss_cons (O1 := [0, 2, 0, 0, 0, 0, 0, 0]) (ds_setT (k := 0) (n := 0) (asg_name (de_var (i := 5) (pv 5)) sc_odd_board.nd rfl (Or.inl rfl)) (by decide) (Or.inl rfl))
    (dss_one (ds_setT (k := 0) (n := 0) (asg_name (de_var (i := 6) (pv 6)) sc_odd_board.nd rfl (Or.inl rfl)) (by decide) (Or.inl rfl)))) (dss_one (ds_setT (k := 0) (n := 0) (asg_name (de_mod (de_add (by decide) (de_var (i := 2) (pv 2)) de_int) (de_var (i := 0) (pv 0))) sc_odd_board.nd rfl (Or.inl rfl)) (by decide) (Or.inl rfl)))))))))
    (dss_one (ds_move (i := 1) (by exact pv 1)))))))
theorem oe_odd_board (T : Txt K mg C f fd u) : FnOk P w K mg base (L2.CX P w) (0 + 1) (f 12) (fd 12) ["size"] (spD K (cmOf C) (["size"] : List Str).length 2 (runF N_odd_board.length b_odd_board)) :=
  okD (O := [0, 0, 0, 0, 0, 0, 0, 0]) (O' := [0, 0, 0, 0, 0, 0, 0, 0]) T.F_odd_board sc_odd_board (by rfl) (od_odd_board T)
theorem ok_odd_board (T : Txt K mg C f fd u) : FnOk P w K mg base (L2.CX P w) 1 (f 12) (fd 12) ["size"] (spD K (cmOf C) 1 2 m_odd_board) := oe_odd_board T
theorem od_fourfold_board (T : Txt K mg C f fd u) (cdv : Value) (A : Around) (outer : List PySem.Env) (s : Shared) (H : Hp) (E : XK) (hr : Room 0 (A.deeper (envOfC "fourfold_board" (defScope s_fourfold_board) s.heap.objs.size (f 13) cdv))) :
    DSs (cxOf (L2.CX P w) P w K mg base N_fourfold_board "fourfold_board" (defScope s_fourfold_board) (f 13) cdv A outer s H E) (cmOf C) (fun cls d _ H => E cls d H) 2 [0, 0, 0, 0, 0, 0] [0, 0, 0, 0, 0, 0] (defBody s_fourfold_board) b_fourfold_board := by
  have hp := passes_of (X := cxOf (L2.CX P w) P w K mg base N_fourfold_board "fourfold_board" (defScope s_fourfold_board) (f 13) cdv A outer s H E) rfl
  have tk := takes_of (X := cxOf (L2.CX P w) P w K mg base N_fourfold_board "fourfold_board" (defScope s_fourfold_board) (f 13) cdv A outer s H E) (E := E) rfl rfl rfl rfl
  have px := fun σ => passAt tk σ
  exact (dss_cons (O1 := [0, 2, 0, 0, 0, 0]) (ds_setT (k := 1) (n := 2) (asg_name (de_lst da_nil) sc_fourfold_board.nd rfl (Or.inl rfl)) (by decide) (Or.inr (by decide)))
    (dss_cons (O1 := [0, 2, 0, 0, 0, 0]) (ds_for hp rfl (di_rg1 (i := 2) T.n_range (de_var (i := 0) (pv 0))) (pg_name (i := 2) sc_fourfold_board.nd rfl (Or.inl rfl))
    (dss_post [0, 2, 0, 1, 0, 0] (dss_cons (O1 := [0, 2, 0, 1, 0, 0]) (ds_setT (k := 1) (n := 1) (asg_name (de_lst da_nil) sc_fourfold_board.nd rfl (Or.inl rfl)) (by decide) (Or.inr (by decide)))
    (dss_cons (O1 := [0, 2, 0, 1, 0, 0]) (ds_for hp rfl (di_rg1 (i := 4) T.n_range (de_var (i := 0) (pv 0))) (pg_name (i := 4) sc_fourfold_board.nd rfl (Or.inl rfl))
    (dss_cons (O1 := [0, 2, 0, 1, 0, 0]) (ds_setT (k := 0) (n := 0) (asg_name (de_add (by decide) (de_add (by decide) (de_mul (by decide) (de_var (i := 2) (pv 2)) (de_var (i := 0) (pv 0))) (de_var (i := 4) (pv 4))) de_int) sc_fourfold_board.nd rfl (Or.inl rfl)) (by decide) (Or.inl rfl))
    (dss_cons (O1 := [0, 2, 0, 1, 0, 0]) (ds_if (O' := [0, 2, 0, 1, 0, 0]) (DW.dt (dw_or (dt_eq (de_mod (de_var (i := 2) (pv 2)) de_int) (de_mod (de_var (i := 4) (pv 4)) de_int) (hu64 hr)) (dw_or1 (dt_eq (de_add (by decide) (de_mod (de_var (i := 2) (pv 2)) de_int) (de_mod (de_var (i := 4) (pv 4)) de_int)) de_int (hu64 hr))))) (dss_one (ds_setT (k := 0) (n := 0) (asg_name (de_sub (de_add (by decide) (de_mul (by decide) (de_var (i := 0) (pv 0)) (de_var (i := 0) (pv 0))) de_int) (de_var (i := 5) (pv 5))) sc_fourfold_board.nd rfl (Or.inl rfl)) (by decide) (Or.inl rfl))) dss_nil)
    (dss_one (ds_appT (i := 3) (n := 0) (k := 0) rfl (by decide) (by exact pe_bm PySem.F.plainAttrs_list PySem.F.slot_list_append PySem.F.type_list_append mt_append (pv 3) (pa_cons (de_var (i := 5) (pv 5)) pa_nil)))))))
    (dss_one (ds_appM (i := 1) (j := 3) (n := 1) rfl rfl (by decide) (by exact pe_bm PySem.F.plainAttrs_list PySem.F.slot_list_append PySem.F.type_list_append mt_append (pv 1) (pa_cons (pv 3) pa_nil))))))))
    (dss_one (ds_move (i := 1) (by exact pv 1)))))
theorem oe_fourfold_board (T : Txt K mg C f fd u) : FnOk P w K mg base (L2.CX P w) (0 + 1) (f 13) (fd 13) ["size"] (spD K (cmOf C) (["size"] : List Str).length 2 (runF N_fourfold_board.length b_fourfold_board)) :=
  okD (O := [0, 0, 0, 0, 0, 0]) (O' := [0, 0, 0, 0, 0, 0]) T.F_fourfold_board sc_fourfold_board (by rfl) (od_fourfold_board T)
theorem ok_fourfold_board (T : Txt K mg C f fd u) : FnOk P w K mg base (L2.CX P w) 1 (f 13) (fd 13) ["size"] (spD K (cmOf C) 1 2 m_fourfold_board) := oe_fourfold_board T
theorem od_block_of (T : Txt K mg C f fd u) (cdv : Value) (A : Around) (outer : List PySem.Env) (s : Shared) (H : Hp) (E : XK) (hr : Room 0 (A.deeper (envOfC "block_of" (defScope s_block_of) s.heap.objs.size (f 14) cdv))) :
    DSs (cxOf (L2.CX P w) P w K mg base N_block_of "block_of" (defScope s_block_of) (f 14) cdv A outer s H E) (cmOf C) (fun cls d _ H => E cls d H) 1 [0, 0, 0, 0, 0] [0, 0, 0, 0, 0] (defBody s_block_of) b_block_of := by
  have hp := passes_of (X := cxOf (L2.CX P w) P w K mg base N_block_of "block_of" (defScope s_block_of) (f 14) cdv A outer s H E) rfl
  have tk := takes_of (X := cxOf (L2.CX P w) P w K mg base N_block_of "block_of" (defScope s_block_of) (f 14) cdv A outer s H E) (E := E) rfl rfl rfl rfl
  have px := fun σ => passAt tk σ
  exact (dss_cons (O1 := [0, 0, 0, 0, 0]) (ds_setT (k := 0) (n := 0) (asg_name (de_fdiv (de_var (i := 2) (pv 2)) de_int) sc_block_of.nd rfl (Or.inl rfl)) (by decide) (Or.inl rfl))
    (dss_cons (O1 := [0, 0, 0, 0, 0]) (ds_setT (k := 0) (n := 0) (asg_name (de_le (de_var (i := 0) (pv 0)) (de_var (i := 3) (pv 3))) sc_block_of.nd rfl (Or.inl rfl)) (by decide) (Or.inl rfl))
    (dss_cons (O1 := [0, 0, 0, 0, 0]) (ds_if (O' := [0, 0, 0, 0, 0]) (DW.dt (dw_and (dt_eq (de_var (i := 1) (pv 1)) (de_var (i := 3) (pv 3)) (hu64 hr)) (dw_and1 (DW.dt (dw_or (dt_eq (de_var (i := 0) (pv 0)) (de_var (i := 3) (pv 3)) (hu64 hr)) (dw_or1 (dt_eq (de_var (i := 0) (pv 0)) (de_add (by decide) (de_var (i := 3) (pv 3)) de_int) (hu64 hr)))))))) (dss_one (ds_setT (k := 0) (n := 0) (asg_name (de_eq (de_var (i := 0) (pv 0)) (de_add (by decide) (de_var (i := 3) (pv 3)) de_int) (hu64 hr)) sc_block_of.nd rfl (Or.inl rfl)) (by decide) (Or.inl rfl))) dss_nil)
    (dss_cons (O1 := [0, 0, 0, 0, 0]) (ds_if (O' := [0, 0, 0, 0, 0]) (dt_val (de_var (i := 4) (pv 4))) (dss_one (ds_ret (de_lst (da_cons de_int (da_cons de_int (da_cons de_int (da_cons de_int da_nil))))))) dss_nil)
    (dss_cons (O1 := [0, 0, 0, 0, 0]) (ds_if (O' := [0, 0, 0, 0, 0]) (dt_le (de_var (i := 0) (pv 0)) (de_add (by decide) (de_var (i := 3) (pv 3)) de_int)) (dss_one (ds_ret (de_lst (da_cons de_int (da_cons de_int (da_cons de_int (da_cons de_int da_nil))))))) dss_nil)
    (dss_one (ds_ret (de_lst (da_cons de_int (da_cons de_int (da_cons de_int (da_cons de_int da_nil))))))))))))
theorem oe_block_of (T : Txt K mg C f fd u) : FnOk P w K mg base (L2.CX P w) (0 + 1) (f 14) (fd 14) ["r", "c", "half"] (spD K (cmOf C) (["r", "c", "half"] : List Str).length 1 (runF N_block_of.length b_block_of)) :=
  okD (O := [0, 0, 0, 0, 0]) (O' := [0, 0, 0, 0, 0]) T.F_block_of sc_block_of (by rfl) (od_block_of T)
theorem ok_block_of (T : Txt K mg C f fd u) : FnOk P w K mg base (L2.CX P w) 1 (f 14) (fd 14) ["r", "c", "half"] (spD K (cmOf C) 3 1 m_block_of) := oe_block_of T
theorem od_twofold_board (T : Txt K mg C f fd u) (cdv : Value) (A : Around) (outer : List PySem.Env) (s : Shared) (H : Hp) (E : XK) (hr : Room 1 (A.deeper (envOfC "twofold_board" (defScope s_twofold_board) s.heap.objs.size (f 15) cdv))) :
    DSs (cxOf (L2.CX P w) P w K mg base N_twofold_board "twofold_board" (defScope s_twofold_board) (f 15) cdv A outer s H E) (cmOf C) (fun cls d _ H => E cls d H) 2 [0, 0, 0, 0, 0, 0, 0, 0] [0, 0, 0, 0, 0, 0, 0, 0] (defBody s_twofold_board) b_twofold_board := by
  have hp := passes_of (X := cxOf (L2.CX P w) P w K mg base N_twofold_board "twofold_board" (defScope s_twofold_board) (f 15) cdv A outer s H E) rfl
  have tk := takes_of (X := cxOf (L2.CX P w) P w K mg base N_twofold_board "twofold_board" (defScope s_twofold_board) (f 15) cdv A outer s H E) (E := E) rfl rfl rfl rfl
  have px := fun σ => passAt tk σ
  exact (dss_cons (O1 := [0, 0, 0, 0, 0, 0, 0, 0]) (ds_setT (k := 0) (n := 0) (asg_name (de_fdiv (de_var (i := 0) (pv 0)) de_int) sc_twofold_board.nd rfl (Or.inl rfl)) (by decide) (Or.inl rfl))
    (dss_cons (O1 := [0, 0, 0, 0, 0, 0, 0, 0]) (ds_setT (k := 2) (n := 0) (asg_name (de_fnN (ok_odd_board T) (hr.mono (by decide)) T.g_odd_board T.F_odd_board.kp T.b_odd_board (da_cons (de_var (i := 1) (pv 1)) da_nil)) sc_twofold_board.nd rfl (Or.inl rfl)) (by decide) (Or.inl rfl))
    (dss_cons (O1 := [0, 0, 0, 2, 0, 0, 0, 0]) (ds_setT (k := 2) (n := 2) (asg_lc rfl sc_twofold_board.nd rfl rfl (sw_true rfl rfl rfl (by decide +kernel)) (di_rg1 (i := 6) T.n_range (de_var (i := 0) (pv 0))) (blkOk_by (N := N_twofold_board) (sc := (defScope s_twofold_board)) (own := [("k", 6)]) (by decide +kernel)) (by rfl) (fun _ _ _ _ _ => (pg_name (i := 6) sc_twofold_board.nd rfl (Or.inl rfl))) (fun _ _ _ _ _ => dts_nil) (fun _ _ _ _ _ => (de_mul (by decide) (de_zero (n := 1) (de_lst (da_cons de_int da_nil))) (de_var (i := 0) (pv 0))))) (by decide) (Or.inr (by decide)))
    (dss_cons (O1 := [0, 0, 0, 2, 0, 0, 0, 0]) (ds_for hp rfl (di_rg1 (i := 4) T.n_range (de_var (i := 1) (pv 1))) (pg_name (i := 4) sc_twofold_board.nd rfl (Or.inl rfl))
    (dss_one (ds_for hp rfl (di_rg1 (i := 5) T.n_range (de_var (i := 1) (pv 1))) (pg_name (i := 5) sc_twofold_board.nd rfl (Or.inl rfl))
    (dss_cons (O1 := [0, 0, 0, 2, 0, 0, 0, 0]) (ds_setT (k := 1) (n := 0) (asg_name (de_fnN (ok_block_of T) (hr.mono (by decide)) T.g_block_of T.F_block_of.kp T.b_block_of (da_cons (de_var (i := 4) (pv 4)) (da_cons (de_var (i := 5) (pv 5)) (da_cons (de_var (i := 1) (pv 1)) da_nil)))) sc_twofold_board.nd rfl (Or.inl rfl)) (by decide) (Or.inl rfl))
    (dss_one (ds_for hp rfl (di_rg1 (i := 6) T.n_range de_int) (pg_name (i := 6) sc_twofold_board.nd rfl (Or.inl rfl))
    (dss_one (ds_set2 (i := 3) (n := 0) rfl (de_add (by decide) (de_mul (by decide) de_int (de_sub (de_ix (de_ix (de_var (i := 2) (pv 2)) (de_var (i := 4) (pv 4))) (de_var (i := 5) (pv 5))) de_int)) (de_ix (de_var (i := 7) (pv 7)) (de_var (i := 6) (pv 6)))) (by exact pg_sub (pe_ix ix_seq (pv 3) (de_add (by decide) (de_mul (by decide) de_int (de_var (i := 4) (pv 4))) (de_fdiv (de_var (i := 6) (pv 6)) de_int)) (fun _ _ => rfl)) (de_add (by decide) (de_mul (by decide) de_int (de_var (i := 5) (pv 5))) (de_mod (de_var (i := 6) (pv 6)) de_int)) set_list)))))))))
    (dss_one (ds_move (i := 3) (by exact pv 3)))))))
theorem oe_twofold_board (T : Txt K mg C f fd u) : FnOk P w K mg base (L2.CX P w) (1 + 1) (f 15) (fd 15) ["size"] (spD K (cmOf C) (["size"] : List Str).length 2 (runF N_twofold_board.length b_twofold_board)) :=
  okD (O := [0, 0, 0, 0, 0, 0, 0, 0]) (O' := [0, 0, 0, 0, 0, 0, 0, 0]) T.F_twofold_board sc_twofold_board (by rfl) (od_twofold_board T)
theorem ok_twofold_board (T : Txt K mg C f fd u) : FnOk P w K mg base (L2.CX P w) 2 (f 15) (fd 15) ["size"] (spD K (cmOf C) 1 2 m_twofold_board) := oe_twofold_board T
theorem od_laid (T : Txt K mg C f fd u) (cdv : Value) (A : Around) (outer : List PySem.Env) (s : Shared) (H : Hp) (E : XK) (hr : Room 2 (A.deeper (envOfC "laid" (defScope s_laid) s.heap.objs.size (f 16) cdv))) :
    DSs (cxOf (L2.CX P w) P w K mg base N_laid "laid" (defScope s_laid) (f 16) cdv A outer s H E) (cmOf C) (fun cls d _ H => E cls d H) 2 [0] [0] (defBody s_laid) b_laid := by
  have hp := passes_of (X := cxOf (L2.CX P w) P w K mg base N_laid "laid" (defScope s_laid) (f 16) cdv A outer s H E) rfl
  have tk := takes_of (X := cxOf (L2.CX P w) P w K mg base N_laid "laid" (defScope s_laid) (f 16) cdv A outer s H E) (E := E) rfl rfl rfl rfl
  have px := fun σ => passAt tk σ
  exact (dss_cons (O1 := [0]) (ds_if (O' := [0]) (DW.dt (dw_or (dt_not (dt_chain de_int (de_var (i := 0) (pv 0)) de_int)) (dw_or1 (dt_eq (de_var (i := 0) (pv 0)) de_int (hu64 hr))))) (dss_one (ds_raise rfl tk (pmk_own PySem.F.excBase_ValueError T.x_NoSize T.c_NoSize T.kc_NoSize (raises_own T.bc_NoSize T.tc_NoSize) rfl) rfl)) dss_nil)
    (dss_cons (O1 := [0]) (ds_if (O' := [0]) (dt_eq (de_mod (de_var (i := 0) (pv 0)) de_int) de_int (hu64 hr)) (dss_one (ds_ret (de_fnN (ok_odd_board T) (hr.mono (by decide)) T.g_odd_board T.F_odd_board.kp T.b_odd_board (da_cons (de_var (i := 0) (pv 0)) da_nil)))) dss_nil)
    (dss_cons (O1 := [0]) (ds_if (O' := [0]) (dt_eq (de_mod (de_var (i := 0) (pv 0)) de_int) de_int (hu64 hr)) (dss_one (ds_ret (de_fnN (ok_fourfold_board T) (hr.mono (by decide)) T.g_fourfold_board T.F_fourfold_board.kp T.b_fourfold_board (da_cons (de_var (i := 0) (pv 0)) da_nil)))) dss_nil)
    (dss_one (ds_ret (de_fnN (ok_twofold_board T) (hr.mono (by decide)) T.g_twofold_board T.F_twofold_board.kp T.b_twofold_board (da_cons (de_var (i := 0) (pv 0)) da_nil)))))))
theorem oe_laid (T : Txt K mg C f fd u) : FnOk P w K mg base (L2.CX P w) (2 + 1) (f 16) (fd 16) ["size"] (spD K (cmOf C) (["size"] : List Str).length 2 (runF N_laid.length b_laid)) :=
  okD (O := [0]) (O' := [0]) T.F_laid sc_laid (by rfl) (od_laid T)
theorem ok_laid (T : Txt K mg C f fd u) : FnOk P w K mg base (L2.CX P w) 3 (f 16) (fd 16) ["size"] (spD K (cmOf C) 1 2 m_laid) := oe_laid T
theorem od_turn (T : Txt K mg C f fd u) (cdv : Value) (A : Around) (outer : List PySem.Env) (s : Shared) (H : Hp) (E : XK) (hr : Room 0 (A.deeper (envOfC "turn" (defScope s_turn) s.heap.objs.size (f 17) cdv))) :
    DSs (cxOf (L2.CX P w) P w K mg base N_turn "turn" (defScope s_turn) (f 17) cdv A outer s H E) (cmOf C) (fun cls d _ H => E cls d H) 2 [0, 0, 0, 0] [0, 0, 0, 0] (defBody s_turn) b_turn := by
  have hp := passes_of (X := cxOf (L2.CX P w) P w K mg base N_turn "turn" (defScope s_turn) (f 17) cdv A outer s H E) rfl
  have tk := takes_of (X := cxOf (L2.CX P w) P w K mg base N_turn "turn" (defScope s_turn) (f 17) cdv A outer s H E) (E := E) rfl rfl rfl rfl
  have px := fun σ => passAt tk σ
  exact (dss_cons (O1 := [0, 0, 0, 0]) (ds_setT (k := 0) (n := 0) (asg_name (de_len T.n_len (de_var (i := 0) (pv 0))) sc_turn.nd rfl (Or.inr rfl)) (by decide) (Or.inl rfl))
    (dss_one (ds_ret (de_lc rfl sc_turn.nd (di_rg1 (i := 2) T.n_range (de_var (i := 1) (pv 1))) (blkOk_by (N := N_turn) (sc := (defScope s_turn)) (own := [("r", 2)]) (by decide +kernel)) (by rfl) (fun _ _ _ _ _ => (pg_name (i := 2) sc_turn.nd rfl (Or.inr rfl))) (fun _ _ _ _ _ => dts_nil) (fun _ _ _ _ _ => (de_lc rfl sc_turn.nd (di_rg1 (i := 3) T.n_range (de_var (i := 1) (pv 1))) (blkOk_by (N := N_turn) (sc := (relS _ (defScope s_turn))) (own := [("c", 3)]) (by decide +kernel)) (by rfl) (fun _ _ _ _ _ => (pg_name (i := 3) sc_turn.nd rfl (Or.inl rfl))) (fun _ _ _ _ _ => dts_nil) (fun _ _ _ _ _ => (de_ix (de_ix (de_var (i := 0) (pv 0)) (de_sub (de_sub (de_var (i := 1) (pv 1)) de_int) (de_var (i := 3) (pv 3)))) (de_var (i := 2) (pv 2))))))))))
theorem oe_turn (T : Txt K mg C f fd u) : FnOk P w K mg base (L2.CX P w) (0 + 1) (f 17) (fd 17) ["board"] (spD K (cmOf C) (["board"] : List Str).length 2 (runF N_turn.length b_turn)) :=
  okD (O := [0, 0, 0, 0]) (O' := [0, 0, 0, 0]) T.F_turn sc_turn (by rfl) (od_turn T)
theorem ok_turn (T : Txt K mg C f fd u) : FnOk P w K mg base (L2.CX P w) 1 (f 17) (fd 17) ["board"] (spD K (cmOf C) 1 2 m_turn) := oe_turn T
theorem od_kin (T : Txt K mg C f fd u) (cdv : Value) (A : Around) (outer : List PySem.Env) (s : Shared) (H : Hp) (E : XK) (hr : Room 2 (A.deeper (envOfC "kin" (defScope s_kin) s.heap.objs.size (f 18) cdv))) :
    DSs (cxOf (L2.CX P w) P w K mg base N_kin "kin" (defScope s_kin) (f 18) cdv A outer s H E) (cmOf C) (fun cls d _ H => E cls d H) 3 [0, 0, 0, 0, 0] [0, 0, 0, 0, 0] (defBody s_kin) b_kin := by
  have hp := passes_of (X := cxOf (L2.CX P w) P w K mg base N_kin "kin" (defScope s_kin) (f 18) cdv A outer s H E) rfl
  have tk := takes_of (X := cxOf (L2.CX P w) P w K mg base N_kin "kin" (defScope s_kin) (f 18) cdv A outer s H E) (E := E) rfl rfl rfl rfl
  have px := fun σ => passAt tk σ
  exact (dss_cons (O1 := [0, 0, 0, 0, 0]) (ds_expr (de_fn (ok_check_board T) (hr.mono (by decide)) T.g_check_board T.F_check_board.kp T.b_check_board px (da_cons (de_var (i := 0) (pv 0)) da_nil)))
    (dss_cons (O1 := [0, 3, 0, 0, 0]) (ds_setT (k := 1) (n := 3) (asg_name (de_lst da_nil) sc_kin.nd rfl (Or.inl rfl)) (by decide) (Or.inr (by decide)))
    (dss_cons (O1 := [0, 3, 0, 0, 0]) (ds_setP (n := 0) (asg_name (de_var (i := 0) (pv 0)) sc_kin.nd rfl (Or.inl rfl)) (by decide))
    (dss_cons (O1 := [0, 3, 0, 0, 0]) (ds_for hp rfl (di_rg1 (i := 3) T.n_range de_int) (pg_name (i := 3) sc_kin.nd rfl (Or.inl rfl))
    (dss_cons (O1 := [0, 3, 0, 0, 0]) (ds_setT (k := 2) (n := 0) (asg_name (de_fnN (ok_turn T) (hr.mono (by decide)) T.g_turn T.F_turn.kp T.b_turn (da_cons (de_var (i := 2) (pv 2)) da_nil)) sc_kin.nd rfl (Or.inl rfl)) (by decide) (Or.inl rfl))
    (dss_cons (O1 := [0, 3, 0, 0, 0]) (ds_appT (i := 1) (n := 2) (k := 2) rfl (by decide) (by exact pe_bm PySem.F.plainAttrs_list PySem.F.slot_list_append PySem.F.type_list_append mt_append (pv 1) (pa_cons (de_lc rfl sc_kin.nd (di_list (i := 4) (de_var (i := 2) (pv 2))) (blkOk_by (N := N_kin) (sc := (defScope s_kin)) (own := [("row", 4)]) (by decide +kernel)) (by rfl) (fun _ _ _ _ _ => (pg_name (i := 4) sc_kin.nd rfl (Or.inl rfl))) (fun _ _ _ _ _ => dts_nil) (fun _ _ _ _ _ => (de_list (by decide) T.n_list (de_var (i := 4) (pv 4))))) pa_nil)))
    (dss_one (ds_appT (i := 1) (n := 2) (k := 2) rfl (by decide) (by exact pe_bm PySem.F.plainAttrs_list PySem.F.slot_list_append PySem.F.type_list_append mt_append (pv 1) (pa_cons (de_lc rfl sc_kin.nd (di_list (i := 4) (de_var (i := 2) (pv 2))) (blkOk_by (N := N_kin) (sc := (defScope s_kin)) (own := [("row", 4)]) (by decide +kernel)) (by rfl) (fun _ _ _ _ _ => (pg_name (i := 4) sc_kin.nd rfl (Or.inl rfl))) (fun _ _ _ _ _ => dts_nil) (fun _ _ _ _ _ => (de_rev (by decide) (de_var (i := 4) (pv 4))))) pa_nil)))))))
    (dss_one (ds_retS (i := 1) (n := 2) rfl (hu65 hr) T.n_sorted (by exact pv 1)))))))
theorem oe_kin (T : Txt K mg C f fd u) : FnOk P w K mg base (L2.CX P w) (2 + 1) (f 18) (fd 18) ["board"] (spD K (cmOf C) (["board"] : List Str).length 3 (runF N_kin.length b_kin)) :=
  okD (O := [0, 0, 0, 0, 0]) (O' := [0, 0, 0, 0, 0]) T.F_kin sc_kin (by rfl) (od_kin T)
theorem ok_kin (T : Txt K mg C f fd u) : FnOk P w K mg base (L2.CX P w) 3 (f 18) (fd 18) ["board"] (spD K (cmOf C) 1 3 m_kin) := oe_kin T
theorem od_is_fair (T : Txt K mg C f fd u) (cdv : Value) (A : Around) (outer : List PySem.Env) (s : Shared) (H : Hp) (E : XK) (hr : Room 0 (A.deeper (envOfC "is_fair" (defScope s_is_fair) s.heap.objs.size (f 19) cdv))) :
    DSs (cxOf (L2.CX P w) P w K mg base N_is_fair "is_fair" (defScope s_is_fair) (f 19) cdv A outer s H E) (cmOf C) (fun cls d _ H => E cls d H) 0 [0, 0, 0] [0, 0, 0] (defBody s_is_fair) b_is_fair := by
  have hp := passes_of (X := cxOf (L2.CX P w) P w K mg base N_is_fair "is_fair" (defScope s_is_fair) (f 19) cdv A outer s H E) rfl
  have tk := takes_of (X := cxOf (L2.CX P w) P w K mg base N_is_fair "is_fair" (defScope s_is_fair) (f 19) cdv A outer s H E) (E := E) rfl rfl rfl rfl
  have px := fun σ => passAt tk σ
  exact (dss_cons (O1 := [0, 0, 0]) (ds_if (O' := [0, 0, 0]) (dt_ne (de_sorted (by decide) T.n_sorted (de_var (i := 0) (pv 0))) (de_lstRg1 (by decide) rfl T.n_list T.n_range (de_var (i := 1) (pv 1)) (pos1 := ⟨0, 0, 0, 0⟩)) (hu64 hr)) (dss_one (ds_ret de_bl)) dss_nil)
    (dss_one (ds_ret (de_all rfl T.n_all (de_zero (n := 1) (de_lc rfl sc_is_fair.nd (di_rg1 (i := 2) T.n_range (de_var (i := 1) (pv 1))) (blkOk_by (N := N_is_fair) (sc := (defScope s_is_fair)) (own := [("k", 2)]) (by decide +kernel)) (by rfl) (fun _ _ _ _ _ => (pg_name (i := 2) sc_is_fair.nd rfl (Or.inl rfl))) (fun _ _ _ _ _ => dts_nil) (fun _ _ _ _ _ => (de_eq (de_add (by decide) (de_ix (de_var (i := 0) (pv 0)) (de_var (i := 2) (pv 2))) (de_ix (de_var (i := 0) (pv 0)) (de_sub (de_sub (de_var (i := 1) (pv 1)) de_int) (de_var (i := 2) (pv 2))))) (de_sub (de_var (i := 1) (pv 1)) de_int) (hu64 hr)))))))))
theorem oe_is_fair (T : Txt K mg C f fd u) : FnOk P w K mg base (L2.CX P w) (0 + 1) (f 19) (fd 19) ["order", "size"] (spD K (cmOf C) (["order", "size"] : List Str).length 0 (runF N_is_fair.length b_is_fair)) :=
  okD (O := [0, 0, 0]) (O' := [0, 0, 0]) T.F_is_fair sc_is_fair (by rfl) (od_is_fair T)
theorem ok_is_fair (T : Txt K mg C f fd u) : FnOk P w K mg base (L2.CX P w) 1 (f 19) (fd 19) ["order", "size"] (spD K (cmOf C) 2 0 m_is_fair) := oe_is_fair T
theorem od_arranged (T : Txt K mg C f fd u) (cdv : Value) (A : Around) (outer : List PySem.Env) (s : Shared) (H : Hp) (E : XK) (hr : Room 2 (A.deeper (envOfC "arranged" (defScope s_arranged) s.heap.objs.size (f 20) cdv))) :
    DSs (cxOf (L2.CX P w) P w K mg base N_arranged "arranged" (defScope s_arranged) (f 20) cdv A outer s H E) (cmOf C) (fun cls d _ H => E cls d H) 2 [0, 0, 0, 0] [0, 0, 0, 0] (defBody s_arranged) b_arranged := by
  have hp := passes_of (X := cxOf (L2.CX P w) P w K mg base N_arranged "arranged" (defScope s_arranged) (f 20) cdv A outer s H E) rfl
  have tk := takes_of (X := cxOf (L2.CX P w) P w K mg base N_arranged "arranged" (defScope s_arranged) (f 20) cdv A outer s H E) (E := E) rfl rfl rfl rfl
  have px := fun σ => passAt tk σ
  exact (dss_cons (O1 := [0, 0, 0, 0]) (ds_expr (de_fn (ok_check_board T) (hr.mono (by decide)) T.g_check_board T.F_check_board.kp T.b_check_board px (da_cons (de_var (i := 0) (pv 0)) da_nil)))
    (dss_cons (O1 := [0, 0, 0, 0]) (ds_if (O' := [0, 0, 0, 0]) (dt_not (dt_val (de_fnN (ok_is_fair T) (hr.mono (by decide)) T.g_is_fair T.F_is_fair.kp T.b_is_fair (da_cons (de_var (i := 1) (pv 1)) (da_cons (de_len T.n_len (de_var (i := 0) (pv 0))) da_nil))))) (dss_one (ds_raise rfl tk (pmk_own PySem.F.excBase_ValueError T.x_BadOrder T.c_BadOrder T.kc_BadOrder (raises_own T.bc_BadOrder T.tc_BadOrder) rfl) rfl)) dss_nil)
    (dss_one (ds_ret (de_lc rfl sc_arranged.nd (di_list (i := 2) (de_var (i := 1) (pv 1))) (blkOk_by (N := N_arranged) (sc := (defScope s_arranged)) (own := [("one", 2)]) (by decide +kernel)) (by rfl) (fun _ _ _ _ _ => (pg_name (i := 2) sc_arranged.nd rfl (Or.inr rfl))) (fun _ _ _ _ _ => dts_nil) (fun _ _ _ _ _ => (de_lc rfl sc_arranged.nd (di_list (i := 3) (de_var (i := 1) (pv 1))) (blkOk_by (N := N_arranged) (sc := (relS _ (defScope s_arranged))) (own := [("two", 3)]) (by decide +kernel)) (by rfl) (fun _ _ _ _ _ => (pg_name (i := 3) sc_arranged.nd rfl (Or.inl rfl))) (fun _ _ _ _ _ => dts_nil) (fun _ _ _ _ _ => (de_ix (de_ix (de_var (i := 0) (pv 0)) (de_var (i := 2) (pv 2))) (de_var (i := 3) (pv 3)))))))))))
theorem oe_arranged (T : Txt K mg C f fd u) : FnOk P w K mg base (L2.CX P w) (2 + 1) (f 20) (fd 20) ["board", "order"] (spD K (cmOf C) (["board", "order"] : List Str).length 2 (runF N_arranged.length b_arranged)) :=
  okD (O := [0, 0, 0, 0]) (O' := [0, 0, 0, 0]) T.F_arranged sc_arranged (by rfl) (od_arranged T)
theorem ok_arranged (T : Txt K mg C f fd u) : FnOk P w K mg base (L2.CX P w) 3 (f 20) (fd 20) ["board", "order"] (spD K (cmOf C) 2 2 m_arranged) := oe_arranged T
theorem od_woven (T : Txt K mg C f fd u) (cdv : Value) (A : Around) (outer : List PySem.Env) (s : Shared) (H : Hp) (E : XK) (hr : Room 2 (A.deeper (envOfC "woven" (defScope s_woven) s.heap.objs.size (f 21) cdv))) :
    DSs (cxOf (L2.CX P w) P w K mg base N_woven "woven" (defScope s_woven) (f 21) cdv A outer s H E) (cmOf C) (fun cls d _ H => E cls d H) 2 [0, 0, 0, 0, 0, 0, 0] [0, 0, 0, 0, 0, 0, 0] (defBody s_woven) b_woven := by
  have hp := passes_of (X := cxOf (L2.CX P w) P w K mg base N_woven "woven" (defScope s_woven) (f 21) cdv A outer s H E) rfl
  have tk := takes_of (X := cxOf (L2.CX P w) P w K mg base N_woven "woven" (defScope s_woven) (f 21) cdv A outer s H E) (E := E) rfl rfl rfl rfl
  have px := fun σ => passAt tk σ
  exact (dss_cons (O1 := [0, 0, 0, 0, 0, 0, 0]) (ds_expr (de_fn (ok_check_board T) (hr.mono (by decide)) T.g_check_board T.F_check_board.kp T.b_check_board px (da_cons (de_var (i := 0) (pv 0)) da_nil)))
    (dss_cons (O1 := [0, 0, 0, 0, 0, 0, 0]) (ds_expr (de_fn (ok_check_board T) (hr.mono (by decide)) T.g_check_board T.F_check_board.kp T.b_check_board px (da_cons (de_var (i := 1) (pv 1)) da_nil)))
    (dss_cons (O1 := [0, 0, 0, 0, 0, 0, 0]) (ds_setT (k := 0) (n := 0) (asg_name (de_len T.n_len (de_var (i := 1) (pv 1))) sc_woven.nd rfl (Or.inl rfl)) (by decide) (Or.inl rfl))
    (dss_cons (O1 := [0, 0, 0, 0, 0, 0, 0]) (ds_if (O' := [0, 0, 0, 0, 0, 0, 0]) (dt_gt (de_mul (by decide) (de_len T.n_len (de_var (i := 0) (pv 0))) (de_var (i := 2) (pv 2))) (de_glob (i := 12) rfl T.k_MOST.1 T.k_MOST.2)) (dss_one (ds_raise rfl tk (pmk_own PySem.F.excBase_ValueError T.x_NoSize T.c_NoSize T.kc_NoSize (raises_own T.bc_NoSize T.tc_NoSize) rfl) rfl)) dss_nil)
    (dss_cons (O1 := [0, 0, 0, 2, 0, 0, 0]) (ds_setT (k := 1) (n := 2) (asg_name (de_lst da_nil) sc_woven.nd rfl (Or.inl rfl)) (by decide) (Or.inr (by decide)))
    (dss_cons (O1 := [0, 0, 0, 2, 0, 0, 0]) (ds_for hp rfl (di_rg1 (i := 4) T.n_range (de_mul (by decide) (de_len T.n_len (de_var (i := 0) (pv 0))) (de_var (i := 2) (pv 2)))) (pg_name (i := 4) sc_woven.nd rfl (Or.inl rfl))
    (dss_post [0, 0, 0, 2, 0, 1, 0] (dss_cons (O1 := [0, 0, 0, 2, 0, 1, 0]) (ds_setT (k := 1) (n := 1) (asg_name (de_lst da_nil) sc_woven.nd rfl (Or.inl rfl)) (by decide) (Or.inr (by decide)))
    (dss_cons (O1 := [0, 0, 0, 2, 0, 1, 0]) (ds_for hp rfl (di_rg1 (i := 6) T.n_range (de_mul (by decide) (de_len T.n_len (de_var (i := 0) (pv 0))) (de_var (i := 2) (pv 2)))) (pg_name (i := 6) sc_woven.nd rfl (Or.inl rfl))
    (dss_one (ds_appT (i := 5) (n := 0) (k := 0) rfl (by decide) (by exact pe_bm PySem.F.plainAttrs_list PySem.F.slot_list_append PySem.F.type_list_append mt_append (pv 5) (pa_cons (de_add (by decide) (de_mul (by decide) (de_mul (by decide) (de_sub (de_ix (de_ix (de_var (i := 0) (pv 0)) (de_fdiv (de_var (i := 4) (pv 4)) (de_var (i := 2) (pv 2)))) (de_fdiv (de_var (i := 6) (pv 6)) (de_var (i := 2) (pv 2)))) de_int) (de_var (i := 2) (pv 2))) (de_var (i := 2) (pv 2))) (de_ix (de_ix (de_var (i := 1) (pv 1)) (de_mod (de_var (i := 4) (pv 4)) (de_var (i := 2) (pv 2)))) (de_mod (de_var (i := 6) (pv 6)) (de_var (i := 2) (pv 2))))) pa_nil)))))
    (dss_one (ds_appM (i := 3) (j := 5) (n := 1) rfl rfl (by decide) (by exact pe_bm PySem.F.plainAttrs_list PySem.F.slot_list_append PySem.F.type_list_append mt_append (pv 3) (pa_cons (pv 5) pa_nil))))))))
    (dss_one (ds_move (i := 3) (by exact pv 3)))))))))
theorem oe_woven (T : Txt K mg C f fd u) : FnOk P w K mg base (L2.CX P w) (2 + 1) (f 21) (fd 21) ["outer", "inner"] (spD K (cmOf C) (["outer", "inner"] : List Str).length 2 (runF N_woven.length b_woven)) :=
  okD (O := [0, 0, 0, 0, 0, 0, 0]) (O' := [0, 0, 0, 0, 0, 0, 0]) T.F_woven sc_woven (by rfl) (od_woven T)
theorem ok_woven (T : Txt K mg C f fd u) : FnOk P w K mg base (L2.CX P w) 3 (f 21) (fd 21) ["outer", "inner"] (spD K (cmOf C) 2 2 m_woven) := oe_woven T
theorem od__law_cell_at (T : Txt K mg C f fd u) (cdv : Value) (A : Around) (outer : List PySem.Env) (s : Shared) (H : Hp) (E : XK) (hr : Room 0 (A.deeper (envOfC "_law_cell_at" (defScope s__law_cell_at) s.heap.objs.size (f 22) cdv))) :
    DSs (cxOf (L2.CX P w) P w K mg base N__law_cell_at "_law_cell_at" (defScope s__law_cell_at) (f 22) cdv A outer s H E) (cmOf C) (fun cls d _ H => E cls d H) 0 [0, 0] [0, 0] (defBody s__law_cell_at) b__law_cell_at := by
  have hp := passes_of (X := cxOf (L2.CX P w) P w K mg base N__law_cell_at "_law_cell_at" (defScope s__law_cell_at) (f 22) cdv A outer s H E) rfl
  have tk := takes_of (X := cxOf (L2.CX P w) P w K mg base N__law_cell_at "_law_cell_at" (defScope s__law_cell_at) (f 22) cdv A outer s H E) (E := E) rfl rfl rfl rfl
  have px := fun σ => passAt tk σ
  exact (dss_cons (O1 := [0, 0]) (ds_if (O' := [0, 0]) (dt_lt (de_var (i := 1) (pv 1)) (de_len T.n_len (de_var (i := 0) (pv 0)))) (dss_one (ds_ret (de_ix (de_var (i := 0) (pv 0)) (de_var (i := 1) (pv 1))))) dss_nil)
    (dss_one (ds_ret de_int)))
theorem oe__law_cell_at (T : Txt K mg C f fd u) : FnOk P w K mg base (L2.CX P w) (0 + 1) (f 22) (fd 22) ["script", "k"] (spD K (cmOf C) (["script", "k"] : List Str).length 0 (runF N__law_cell_at.length b__law_cell_at)) :=
  okD (O := [0, 0]) (O' := [0, 0]) T.F__law_cell_at sc__law_cell_at (by rfl) (od__law_cell_at T)
theorem ok__law_cell_at (T : Txt K mg C f fd u) : FnOk P w K mg base (L2.CX P w) 1 (f 22) (fd 22) ["script", "k"] (spD K (cmOf C) 2 0 m__law_cell_at) := oe__law_cell_at T
theorem ok__law_which (T : Txt K mg C f fd u) : FnP P w K mg base (0 + 1) (f 23) (fd 23) "e" (spE C) := fn_ofP T.F__law_which sc__law_which fun cdv A outer s H Q p hsp => by
  obtain ⟨c, hc, hz, hf, qq⟩ := hsp
  obtain ⟨a, oe⟩ := p
  have hp : (a, oe) ∈ (L2H.cxH CX0 P w K mg base N__law_which "_law_which" (defScope s__law_which) (f 23) cdv A outer s H E0 (a, oe)).pn := List.mem_singleton.mpr rfl
  rcases (show c = 0 ∨ c = 1 ∨ c = 2 ∨ c = 3 by omega) with rfl | rfl | rfl | rfl
  · refine ⟨tWhich K a true false false false (tRet (tUn (rU fun i => .int (-i)) (tC (.int 1)))), ?_, which_ok (j := 0) (by decide) rfl (by decide) qq⟩
    exact (pss_cons (ps_set sc__law_which.nd rfl (Or.inl rfl) (pe_lst (pa_cons (px_isi hp T.xc_BadBoard hz hf T.n_isinstance (by exact pv 0) T.c_BadBoard T.ks_BadBoard_BadBoard) (pa_cons (px_isi hp T.xc_BadBoard hz hf T.n_isinstance (by exact pv 0) T.c_BadOrder T.ks_BadBoard_BadOrder) (pa_cons (px_isi hp T.xc_BadBoard hz hf T.n_isinstance (by exact pv 0) T.c_NoSize T.ks_BadBoard_NoSize) (pa_cons (px_isi hp T.xc_BadBoard hz hf T.n_isinstance (by exact pv 0) T.c_TooOpen T.ks_BadBoard_TooOpen) pa_nil)))))) (pss_cons (ps_if (PW.pt (pw_or (pt_not (pt_val (px_isi hp T.xc_BadBoard hz hf T.n_isinstance (by exact pv 0) T.c_SumError T.ks_BadBoard_SumError))) (pw_or (pt_not (pt_val (px_isiT hp T.xc_BadBoard hz hf T.n_isinstance (by exact pv 0) T.n_ValueError (by decide +kernel) T.kv_BadBoard))) (pw_or1 (pt_cmpR op_ne (by exact pe_bm PySem.F.plainAttrs_list PySem.F.slot_list_count PySem.F.type_list_count mt_countB (pv 1) (pa_cons pe_bl pa_nil)) pe_int (nomark _)))))) (pss_one (ps_ret (pe_un un_neg pe_int))) pss_nil) (pss_one (ps_ret (by exact pe_bm PySem.F.plainAttrs_list PySem.F.slot_list_index PySem.F.type_list_index mt_index (pv 1) (pa_cons pe_bl pa_nil))))))
  · refine ⟨tWhich K a false true false false (tRet (tUn (rU fun i => .int (-i)) (tC (.int 1)))), ?_, which_ok (j := 1) (by decide) rfl (by decide) qq⟩
    exact (pss_cons (ps_set sc__law_which.nd rfl (Or.inl rfl) (pe_lst (pa_cons (px_isi hp T.xc_BadOrder hz hf T.n_isinstance (by exact pv 0) T.c_BadBoard T.ks_BadOrder_BadBoard) (pa_cons (px_isi hp T.xc_BadOrder hz hf T.n_isinstance (by exact pv 0) T.c_BadOrder T.ks_BadOrder_BadOrder) (pa_cons (px_isi hp T.xc_BadOrder hz hf T.n_isinstance (by exact pv 0) T.c_NoSize T.ks_BadOrder_NoSize) (pa_cons (px_isi hp T.xc_BadOrder hz hf T.n_isinstance (by exact pv 0) T.c_TooOpen T.ks_BadOrder_TooOpen) pa_nil)))))) (pss_cons (ps_if (PW.pt (pw_or (pt_not (pt_val (px_isi hp T.xc_BadOrder hz hf T.n_isinstance (by exact pv 0) T.c_SumError T.ks_BadOrder_SumError))) (pw_or (pt_not (pt_val (px_isiT hp T.xc_BadOrder hz hf T.n_isinstance (by exact pv 0) T.n_ValueError (by decide +kernel) T.kv_BadOrder))) (pw_or1 (pt_cmpR op_ne (by exact pe_bm PySem.F.plainAttrs_list PySem.F.slot_list_count PySem.F.type_list_count mt_countB (pv 1) (pa_cons pe_bl pa_nil)) pe_int (nomark _)))))) (pss_one (ps_ret (pe_un un_neg pe_int))) pss_nil) (pss_one (ps_ret (by exact pe_bm PySem.F.plainAttrs_list PySem.F.slot_list_index PySem.F.type_list_index mt_index (pv 1) (pa_cons pe_bl pa_nil))))))
  · refine ⟨tWhich K a false false true false (tRet (tUn (rU fun i => .int (-i)) (tC (.int 1)))), ?_, which_ok (j := 2) (by decide) rfl (by decide) qq⟩
    exact (pss_cons (ps_set sc__law_which.nd rfl (Or.inl rfl) (pe_lst (pa_cons (px_isi hp T.xc_NoSize hz hf T.n_isinstance (by exact pv 0) T.c_BadBoard T.ks_NoSize_BadBoard) (pa_cons (px_isi hp T.xc_NoSize hz hf T.n_isinstance (by exact pv 0) T.c_BadOrder T.ks_NoSize_BadOrder) (pa_cons (px_isi hp T.xc_NoSize hz hf T.n_isinstance (by exact pv 0) T.c_NoSize T.ks_NoSize_NoSize) (pa_cons (px_isi hp T.xc_NoSize hz hf T.n_isinstance (by exact pv 0) T.c_TooOpen T.ks_NoSize_TooOpen) pa_nil)))))) (pss_cons (ps_if (PW.pt (pw_or (pt_not (pt_val (px_isi hp T.xc_NoSize hz hf T.n_isinstance (by exact pv 0) T.c_SumError T.ks_NoSize_SumError))) (pw_or (pt_not (pt_val (px_isiT hp T.xc_NoSize hz hf T.n_isinstance (by exact pv 0) T.n_ValueError (by decide +kernel) T.kv_NoSize))) (pw_or1 (pt_cmpR op_ne (by exact pe_bm PySem.F.plainAttrs_list PySem.F.slot_list_count PySem.F.type_list_count mt_countB (pv 1) (pa_cons pe_bl pa_nil)) pe_int (nomark _)))))) (pss_one (ps_ret (pe_un un_neg pe_int))) pss_nil) (pss_one (ps_ret (by exact pe_bm PySem.F.plainAttrs_list PySem.F.slot_list_index PySem.F.type_list_index mt_index (pv 1) (pa_cons pe_bl pa_nil))))))
  · refine ⟨tWhich K a false false false true (tRet (tUn (rU fun i => .int (-i)) (tC (.int 1)))), ?_, which_ok (j := 3) (by decide) rfl (by decide) qq⟩
    exact (pss_cons (ps_set sc__law_which.nd rfl (Or.inl rfl) (pe_lst (pa_cons (px_isi hp T.xc_TooOpen hz hf T.n_isinstance (by exact pv 0) T.c_BadBoard T.ks_TooOpen_BadBoard) (pa_cons (px_isi hp T.xc_TooOpen hz hf T.n_isinstance (by exact pv 0) T.c_BadOrder T.ks_TooOpen_BadOrder) (pa_cons (px_isi hp T.xc_TooOpen hz hf T.n_isinstance (by exact pv 0) T.c_NoSize T.ks_TooOpen_NoSize) (pa_cons (px_isi hp T.xc_TooOpen hz hf T.n_isinstance (by exact pv 0) T.c_TooOpen T.ks_TooOpen_TooOpen) pa_nil)))))) (pss_cons (ps_if (PW.pt (pw_or (pt_not (pt_val (px_isi hp T.xc_TooOpen hz hf T.n_isinstance (by exact pv 0) T.c_SumError T.ks_TooOpen_SumError))) (pw_or (pt_not (pt_val (px_isiT hp T.xc_TooOpen hz hf T.n_isinstance (by exact pv 0) T.n_ValueError (by decide +kernel) T.kv_TooOpen))) (pw_or1 (pt_cmpR op_ne (by exact pe_bm PySem.F.plainAttrs_list PySem.F.slot_list_count PySem.F.type_list_count mt_countB (pv 1) (pa_cons pe_bl pa_nil)) pe_int (nomark _)))))) (pss_one (ps_ret (pe_un un_neg pe_int))) pss_nil) (pss_one (ps_ret (by exact pe_bm PySem.F.plainAttrs_list PySem.F.slot_list_index PySem.F.type_list_index mt_index (pv 1) (pa_cons pe_bl pa_nil))))))
theorem od__law_met (T : Txt K mg C f fd u) (cdv : Value) (A : Around) (outer : List PySem.Env) (s : Shared) (H : Hp) (E : XK) (hr : Room 15 (A.deeper (envOfC "_law_met" (defScope s__law_met) s.heap.objs.size (f 24) cdv))) :
    DSs (cxOf (L2.CX P w) P w K mg base N__law_met "_law_met" (defScope s__law_met) (f 24) cdv A outer s H E) (cmOf C) (fun cls d _ H => E cls d H) 0 [0, 0, 0, 0] [0, 0, 0, 0] (defBody s__law_met) b__law_met := by
  have hp := passes_of (X := cxOf (L2.CX P w) P w K mg base N__law_met "_law_met" (defScope s__law_met) (f 24) cdv A outer s H E) rfl
  have tk := takes_of (X := cxOf (L2.CX P w) P w K mg base N__law_met "_law_met" (defScope s__law_met) (f 24) cdv A outer s H E) (E := E) rfl rfl rfl rfl
  have px := fun σ => passAt tk σ
  exact (dss_cons (O1 := [0, 0, 0, 0]) (ds_setT (k := 2) (n := 0) (asg_name (de_lst (da_cons (de_lst (da_cons de_int (da_cons de_int (da_cons de_int (da_cons de_int da_nil))))) (da_cons (de_lst (da_cons de_int (da_cons de_int (da_cons de_int (da_cons de_int da_nil))))) (da_cons (de_lst (da_cons de_int (da_cons de_int (da_cons de_int (da_cons de_int da_nil))))) (da_cons (de_lst (da_cons de_int (da_cons de_int (da_cons de_int (da_cons de_int da_nil))))) da_nil))))) sc__law_met.nd rfl (Or.inl rfl)) (by decide) (Or.inl rfl))
    (dss_cons (O1 := [0, 0, 0, 0]) (ds_tryF (i := 2) (dom := [0, 1, 2, 3]) (d := fun c => .int (c : Nat)) (O' := [0, 0, 0, 0]) rfl rfl sc__law_met.nd rfl rfl tk (fun W1 pn1 xe1 tk hp => by
    have px := fun σ => passAt tk σ
    exact (dss_one (ds_if (O' := [0, 0, 0, 0]) (dt_eq (de_var (i := 0) (pv 0)) de_int (hu64 hr)) (dss_one (ds_expr (de_fn (ok_sums T) (hr.mono (by decide)) T.g_sums T.F_sums.kp T.b_sums px (da_cons (de_zero (n := 2) (de_lst (da_cons (de_lst (da_cons de_int (da_cons de_int da_nil))) (da_cons (de_lst (da_cons de_int da_nil)) da_nil)))) da_nil)))) (dss_one (ds_if (O' := [0, 0, 0, 0]) (dt_eq (de_var (i := 0) (pv 0)) de_int (hu64 hr)) (dss_one (ds_expr (de_fn (ok_kin T) (hr.mono (by decide)) T.g_kin T.F_kin.kp T.b_kin px (da_cons (de_zero (n := 1) (de_lst da_nil)) da_nil)))) (dss_one (ds_if (O' := [0, 0, 0, 0]) (dt_eq (de_var (i := 0) (pv 0)) de_int (hu64 hr)) (dss_one (ds_expr (de_fn (ok_arranged T) (hr.mono (by decide)) T.g_arranged T.F_arranged.kp T.b_arranged px (da_cons (de_zero (n := 2) (de_lst (da_cons (de_lst (da_cons de_int (da_cons de_int da_nil))) (da_cons (de_lst (da_cons de_int (da_cons de_int da_nil))) da_nil)))) (da_cons (de_zero (n := 1) (de_lst (da_cons de_int (da_cons de_int da_nil)))) da_nil))))) (dss_one (ds_if (O' := [0, 0, 0, 0]) (dt_eq (de_var (i := 0) (pv 0)) de_int (hu64 hr)) (dss_one (ds_expr (de_fn (ok_arranged T) (hr.mono (by decide)) T.g_arranged T.F_arranged.kp T.b_arranged px (da_cons (de_zero (n := 2) (de_lst (da_cons (de_lst (da_cons de_int (da_cons de_int da_nil))) (da_cons (de_lst (da_cons de_int (da_cons de_int da_nil))) da_nil)))) (da_cons (de_zero (n := 1) (de_lst (da_cons de_int (da_cons de_int da_nil)))) da_nil))))) (dss_one (ds_if (O' := [0, 0, 0, 0]) (dt_eq (de_var (i := 0) (pv 0)) de_int (hu64 hr)) (dss_one (ds_expr (de_fn (ok_arranged T) (hr.mono (by decide)) T.g_arranged T.F_arranged.kp T.b_arranged px (da_cons (de_var (i := 1) (pv 1)) (da_cons (de_zero (n := 1) (de_lst (da_cons de_int (da_cons de_int (da_cons de_int (da_cons de_int da_nil)))))) da_nil))))) (dss_one (ds_if (O' := [0, 0, 0, 0]) (dt_eq (de_var (i := 0) (pv 0)) de_int (hu64 hr)) (dss_one (ds_expr (de_fn (ok_laid T) (hr.mono (by decide)) T.g_laid T.F_laid.kp T.b_laid px (da_cons de_int da_nil)))) (dss_one (ds_if (O' := [0, 0, 0, 0]) (dt_eq (de_var (i := 0) (pv 0)) de_int (hu64 hr)) (dss_one (ds_expr (de_fn (ok_woven T) (hr.mono (by decide)) T.g_woven T.F_woven.kp T.b_woven px (da_cons (de_var (i := 1) (pv 1)) (da_cons (de_var (i := 1) (pv 1)) da_nil))))) (dss_one (ds_if (O' := [0, 0, 0, 0]) (dt_eq (de_var (i := 0) (pv 0)) de_int (hu64 hr)) (dss_one (ds_expr (de_fn (ok_woven T) (hr.mono (by decide)) T.g_woven T.F_woven.kp T.b_woven px (da_cons (de_var (i := 1) (pv 1)) (da_cons (de_zero (n := 2) (de_lst (da_cons (de_lst (da_cons de_int da_nil)) da_nil))) da_nil))))) (dss_one (ds_if (O' := [0, 0, 0, 0]) (dt_eq (de_var (i := 0) (pv 0)) de_int (hu64 hr)) (dss_one (ds_expr (de_fn (ok_fillings T) (hr.mono (by decide)) T.g_fillings T.F_fillings.kp T.b_fillings px (da_cons (de_zero (n := 2) (de_lst (da_cons (de_lst (da_cons de_int (da_cons de_int (da_cons de_int (da_cons de_int da_nil))))) (da_cons (de_lst (da_cons de_int (da_cons de_int (da_cons de_int (da_cons de_int da_nil))))) (da_cons (de_lst (da_cons de_int (da_cons de_int (da_cons de_int (da_cons de_int da_nil))))) (da_cons (de_lst (da_cons de_int (da_cons de_int (da_cons de_int (da_cons de_int da_nil))))) da_nil)))))) da_nil)))) (dss_one (ds_if (O' := [0, 0, 0, 0]) (dt_eq (de_var (i := 0) (pv 0)) de_int (hu64 hr)) (dss_one (ds_expr (de_fn (ok_how_many T) (hr.mono (by decide)) T.g_how_many T.F_how_many.kp T.b_how_many px (da_cons (de_zero (n := 2) (de_lst (da_cons (de_lst (da_cons de_int (da_cons de_int (da_cons de_int (da_cons de_int da_nil))))) (da_cons (de_lst (da_cons de_int (da_cons de_int (da_cons de_int (da_cons de_int da_nil))))) (da_cons (de_lst (da_cons de_int (da_cons de_int (da_cons de_int (da_cons de_int da_nil))))) (da_cons (de_lst (da_cons de_int (da_cons de_int (da_cons de_int (da_cons de_int da_nil))))) da_nil)))))) da_nil)))) (dss_one (ds_expr (de_fn (ok_how_many T) (hr.mono (by decide)) T.g_how_many T.F_how_many.kp T.b_how_many px (da_cons (de_zero (n := 2) (de_lc rfl sc__law_met.nd (di_rg1 (i := 3) T.n_range de_int) (blkOk_by (N := N__law_met) (sc := (defScope s__law_met)) (own := [("k", 3)]) (by decide +kernel)) (by rfl) (fun _ _ _ _ _ => (pg_name (i := 3) sc__law_met.nd rfl (Or.inl rfl))) (fun _ _ _ _ _ => dts_nil) (fun _ _ _ _ _ => (de_mul (by decide) (de_zero (n := 1) (de_lst (da_cons de_int da_nil))) de_int)))) da_nil)))))))))))))))))))))))))
    (.cons ⟨rfl, by decide, .inl T.c_SumError⟩ (hs_retF (cs := [0, 1, 2, 3]) (d := fun c => .int (c : Nat)) rfl (by intro c hc; exact ⟨C c, rfl, fun a oe pn hz hf => hd_which (ok__law_which T) (hr.mono (by decide)) T.g__law_which T.F__law_which.kp T.b__law_which (by simp only [List.mem_cons, List.not_mem_nil, or_false] at hc; omega) hz hf (by exact pv 2)⟩)) .nil) (by intro c hc; simp only [List.mem_cons, List.not_mem_nil, or_false] at hc; rcases hc with rfl | rfl | rfl | rfl <;> first | exact T.em_BadBoard_SumError | exact T.em_BadOrder_SumError | exact T.em_NoSize_SumError | exact T.em_TooOpen_SumError))
    (dss_one (ds_ret de_int))))
theorem oe__law_met (T : Txt K mg C f fd u) : FnOk P w K mg base (L2.CX P w) (15 + 1) (f 24) (fd 24) ["way"] (spD K (cmOf C) (["way"] : List Str).length 0 (runF N__law_met.length b__law_met)) :=
  okD (O := [0, 0, 0, 0]) (O' := [0, 0, 0, 0]) T.F__law_met sc__law_met (by rfl) (od__law_met T)
theorem ok__law_met (T : Txt K mg C f fd u) : FnOk P w K mg base (L2.CX P w) 16 (f 24) (fd 24) ["way"] (spD K (cmOf C) 1 0 m__law_met) := oe__law_met T
theorem od_law (T : Txt K mg C f fd u) (cdv : Value) (A : Around) (outer : List PySem.Env) (s : Shared) (H : Hp) (E : XK) (hr : Room 16 (A.deeper (envOfC "law" (defScope s_law) s.heap.objs.size (f 25) cdv))) :
    DSs (cxOf (L2.CX P w) P w K mg base N_law "law" (defScope s_law) (f 25) cdv A outer s H E) (cmOf C) (fun cls d _ H => E cls d H) 0 [0, 0, 0, 0] [0, 0, 0, 0] (defBody s_law) b_law := by
  have hp := passes_of (X := cxOf (L2.CX P w) P w K mg base N_law "law" (defScope s_law) (f 25) cdv A outer s H E) rfl
  have tk := takes_of (X := cxOf (L2.CX P w) P w K mg base N_law "law" (defScope s_law) (f 25) cdv A outer s H E) (E := E) rfl rfl rfl rfl
  have px := fun σ => passAt tk σ
  exact (dss_cons (O1 := [0, 0, 0, 0]) (ds_setT (k := 0) (n := 0) (asg_name (de_mod (de_fnN (ok__law_cell_at T) (hr.mono (by decide)) T.g__law_cell_at T.F__law_cell_at.kp T.b__law_cell_at (da_cons (de_var (i := 0) (pv 0)) (da_cons de_int da_nil))) de_int) sc_law.nd rfl (Or.inl rfl)) (by decide) (Or.inl rfl))
    (dss_cons (O1 := [0, 0, 0, 0]) (ds_for hp rfl (di_rg1 (i := 2) T.n_range de_int) (pg_name (i := 2) sc_law.nd rfl (Or.inl rfl))
    (dss_cons (O1 := [0, 0, 0, 0]) (ds_setP (n := 0) (asg_name (de_mod (de_add (by decide) (de_var (i := 1) (pv 1)) (de_var (i := 2) (pv 2))) de_int) sc_law.nd rfl (Or.inl rfl)) (by decide))
    (dss_one (ds_if (O' := [0, 0, 0, 0]) (dt_ne (de_fnN (ok__law_met T) (hr.mono (by decide)) T.g__law_met T.F__law_met.kp T.b__law_met (da_cons (de_var (i := 3) (pv 3)) da_nil)) (de_ix (de_zero (n := 1) (de_lst (da_cons de_int (da_cons de_int (da_cons de_int (da_cons de_int (da_cons de_int (da_cons de_int (da_cons de_int (da_cons de_int (da_cons de_int (da_cons de_int (da_cons de_int da_nil))))))))))))) (de_var (i := 3) (pv 3))) (hu64 hr)) (dss_one (ds_ret de_bl)) dss_nil))))
    (dss_one (ds_ret de_bl))))
theorem oe_law (T : Txt K mg C f fd u) : FnOk P w K mg base (L2.CX P w) (16 + 1) (f 25) (fd 25) ["script"] (spD K (cmOf C) (["script"] : List Str).length 0 (runF N_law.length b_law)) :=
  okD (O := [0, 0, 0, 0]) (O' := [0, 0, 0, 0]) T.F_law sc_law (by rfl) (od_law T)
theorem ok_law (T : Txt K mg C f fd u) : FnOk P w K mg base (L2.CX P w) 17 (f 25) (fd 25) ["script"] (spD K (cmOf C) 1 0 m_law) := oe_law T
end
end DL

set_option Elab.async false
set_option linter.all false
set_option maxRecDepth 100000
set_option maxHeartbeats 4000000
namespace DL
open PySem PySem.Spec PyProof.Rows L2
/-- the law's loop from each of the eleven ways that may come first -/
theorem ways_ok (ns : List Int) (f : Nat) (h : f < 11) : mSeq p_law_1 p_law_2 [some (.scr ns), some (.int (f : Nat)), none, none] = .ret (.bl true) := by
  rcases (show f = 0 ∨ f = 1 ∨ f = 2 ∨ f = 3 ∨ f = 4 ∨ f = 5 ∨ f = 6 ∨ f = 7 ∨ f = 8 ∨ f = 9 ∨ f = 10 by omega) with rfl | rfl | rfl | rfl | rfl | rfl | rfl | rfl | rfl | rfl | rfl <;> kernel_rfl
theorem law_ok (ns : List Int) : m_law [.scr ns] = .ok (.bl true) := by
  have e0 : mFnN m__law_cell_at 2 (mCons (mVar 0) (mCons (mC (.int 0)) mNil)) (startE 4 [.scr ns]) = .ok (.int (ns.getD 0 0)) := fn_eq (ds := [.scr ns, .int 0]) rfl rfl (cell_ok ns 0)
  obtain ⟨f, hf, ef⟩ : ∃ f : Nat, f < 11 ∧ ns.getD 0 0 % 11 = (f : Int) := ⟨(ns.getD 0 0 % 11).toNat, by omega, by omega⟩
  have q0 : p_law_0 (startE 4 [.scr ns]) = .nx [some (.scr ns), some (.int (f : Nat)), none, none] := sT_nx ((ev_mod e0 rfl (by decide)).trans (by rw [ef])) rfl
  exact run_ret ((seq_nx q0).trans (ways_ok ns f hf))
end DL

set_option Elab.async false
set_option linter.all false
set_option maxRecDepth 100000
set_option maxHeartbeats 8000000
namespace DL
open PySem PySem.Spec PyProof.Rows L2
/-! the end of law_k11_refusals_apart, printed by ends.py -/
theorem all_mk {P : Program} {w : World} {K : PySem.W.Frag} {h : Heap} {mg : Str → Option Value} {fa : Addr} (X : K.In h) (G : h.Ns mainGlobals mg) (hfa : mg "law" = some (.ref fa))
    {f0 : Addr} {od0 an0 : Option Addr} {sl0 : Array (Option Value)} {oc0 kV0 dc0 pm0 cd0 ct0 : Value}
    {f1 : Addr} {od1 an1 : Option Addr} {sl1 : Array (Option Value)} {oc1 kV1 dc1 pm1 cd1 ct1 : Value}
    {f2 : Addr} {od2 an2 : Option Addr} {sl2 : Array (Option Value)} {oc2 kV2 dc2 pm2 cd2 ct2 : Value}
    {f3 : Addr} {od3 an3 : Option Addr} {sl3 : Array (Option Value)} {oc3 kV3 dc3 pm3 cd3 ct3 : Value}
    {f4 : Addr} {od4 an4 : Option Addr} {sl4 : Array (Option Value)} {oc4 kV4 dc4 pm4 cd4 ct4 : Value}
    {f5 : Addr} {od5 an5 : Option Addr} {sl5 : Array (Option Value)} {oc5 kV5 dc5 pm5 cd5 ct5 : Value}
    {f6 : Addr} {od6 an6 : Option Addr} {sl6 : Array (Option Value)} {oc6 kV6 dc6 pm6 cd6 ct6 : Value}
    {f7 : Addr} {od7 an7 : Option Addr} {sl7 : Array (Option Value)} {oc7 kV7 dc7 pm7 cd7 ct7 : Value}
    {f8 : Addr} {od8 an8 : Option Addr} {sl8 : Array (Option Value)} {oc8 kV8 dc8 pm8 cd8 ct8 : Value}
    {f9 : Addr} {od9 an9 : Option Addr} {sl9 : Array (Option Value)} {oc9 kV9 dc9 pm9 cd9 ct9 : Value}
    {f10 : Addr} {od10 an10 : Option Addr} {sl10 : Array (Option Value)} {oc10 kV10 dc10 pm10 cd10 ct10 : Value}
    {f11 : Addr} {od11 an11 : Option Addr} {sl11 : Array (Option Value)} {oc11 kV11 dc11 pm11 cd11 ct11 : Value}
    {f12 : Addr} {od12 an12 : Option Addr} {sl12 : Array (Option Value)} {oc12 kV12 dc12 pm12 cd12 ct12 : Value}
    {f13 : Addr} {od13 an13 : Option Addr} {sl13 : Array (Option Value)} {oc13 kV13 dc13 pm13 cd13 ct13 : Value}
    {f14 : Addr} {od14 an14 : Option Addr} {sl14 : Array (Option Value)} {oc14 kV14 dc14 pm14 cd14 ct14 : Value}
    {f15 : Addr} {od15 an15 : Option Addr} {sl15 : Array (Option Value)} {oc15 kV15 dc15 pm15 cd15 ct15 : Value}
    {f16 : Addr} {od16 an16 : Option Addr} {sl16 : Array (Option Value)} {oc16 kV16 dc16 pm16 cd16 ct16 : Value}
    {f17 : Addr} {od17 an17 : Option Addr} {sl17 : Array (Option Value)} {oc17 kV17 dc17 pm17 cd17 ct17 : Value}
    {f18 : Addr} {od18 an18 : Option Addr} {sl18 : Array (Option Value)} {oc18 kV18 dc18 pm18 cd18 ct18 : Value}
    {f19 : Addr} {od19 an19 : Option Addr} {sl19 : Array (Option Value)} {oc19 kV19 dc19 pm19 cd19 ct19 : Value}
    {f20 : Addr} {od20 an20 : Option Addr} {sl20 : Array (Option Value)} {oc20 kV20 dc20 pm20 cd20 ct20 : Value}
    {f21 : Addr} {od21 an21 : Option Addr} {sl21 : Array (Option Value)} {oc21 kV21 dc21 pm21 cd21 ct21 : Value}
    {f22 : Addr} {od22 an22 : Option Addr} {sl22 : Array (Option Value)} {oc22 kV22 dc22 pm22 cd22 ct22 : Value}
    {f23 : Addr} {od23 an23 : Option Addr} {sl23 : Array (Option Value)} {oc23 kV23 dc23 pm23 cd23 ct23 : Value}
    {f24 : Addr} {od24 an24 : Option Addr} {sl24 : Array (Option Value)} {oc24 kV24 dc24 pm24 cd24 ct24 : Value}
    {f25 : Addr} {od25 an25 : Option Addr} {sl25 : Array (Option Value)} {oc25 kV25 dc25 pm25 cd25 ct25 : Value}
    {C9 C0 C1 C2 C3 : Addr}
    {tk0 : Tok}
    {tk1 : Tok}
    {tk2 : Tok}
    (a0 : PySem.W.nsIn K mainGlobals "flat" = some (some (.ref f0)))
    (l0 : K.lookup f0 = some ⟨oc0, od0, .func (PySem.W.fnOf "flat" "flat" (defArgs s_flat) (defBody s_flat) (defScope s_flat) .none kV0 dc0 pm0 an0 cd0 ct0), sl0⟩)
    (c0 : PySem.W.codeIn K cd0 "flat" = true) (k0 : PySem.W.keepIn K (.ref f0) = true)
    (a1 : PySem.W.nsIn K mainGlobals "is_square" = some (some (.ref f1)))
    (l1 : K.lookup f1 = some ⟨oc1, od1, .func (PySem.W.fnOf "is_square" "is_square" (defArgs s_is_square) (defBody s_is_square) (defScope s_is_square) .none kV1 dc1 pm1 an1 cd1 ct1), sl1⟩)
    (c1 : PySem.W.codeIn K cd1 "is_square" = true) (k1 : PySem.W.keepIn K (.ref f1) = true)
    (a2 : PySem.W.nsIn K mainGlobals "check_board" = some (some (.ref f2)))
    (l2 : K.lookup f2 = some ⟨oc2, od2, .func (PySem.W.fnOf "check_board" "check_board" (defArgs s_check_board) (defBody s_check_board) (defScope s_check_board) .none kV2 dc2 pm2 an2 cd2 ct2), sl2⟩)
    (c2 : PySem.W.codeIn K cd2 "check_board" = true) (k2 : PySem.W.keepIn K (.ref f2) = true)
    (a3 : PySem.W.nsIn K mainGlobals "all_sums" = some (some (.ref f3)))
    (l3 : K.lookup f3 = some ⟨oc3, od3, .func (PySem.W.fnOf "all_sums" "all_sums" (defArgs s_all_sums) (defBody s_all_sums) (defScope s_all_sums) .none kV3 dc3 pm3 an3 cd3 ct3), sl3⟩)
    (c3 : PySem.W.codeIn K cd3 "all_sums" = true) (k3 : PySem.W.keepIn K (.ref f3) = true)
    (a4 : PySem.W.nsIn K mainGlobals "sums" = some (some (.ref f4)))
    (l4 : K.lookup f4 = some ⟨oc4, od4, .func (PySem.W.fnOf "sums" "sums" (defArgs s_sums) (defBody s_sums) (defScope s_sums) .none kV4 dc4 pm4 an4 cd4 ct4), sl4⟩)
    (c4 : PySem.W.codeIn K cd4 "sums" = true) (k4 : PySem.W.keepIn K (.ref f4) = true)
    (a5 : PySem.W.nsIn K mainGlobals "one_sum" = some (some (.ref f5)))
    (l5 : K.lookup f5 = some ⟨oc5, od5, .func (PySem.W.fnOf "one_sum" "one_sum" (defArgs s_one_sum) (defBody s_one_sum) (defScope s_one_sum) .none kV5 dc5 pm5 an5 cd5 ct5), sl5⟩)
    (c5 : PySem.W.codeIn K cd5 "one_sum" = true) (k5 : PySem.W.keepIn K (.ref f5) = true)
    (a6 : PySem.W.nsIn K mainGlobals "check_open" = some (some (.ref f6)))
    (l6 : K.lookup f6 = some ⟨oc6, od6, .func (PySem.W.fnOf "check_open" "check_open" (defArgs s_check_open) (defBody s_check_open) (defScope s_check_open) .none kV6 dc6 pm6 an6 cd6 ct6), sl6⟩)
    (c6 : PySem.W.codeIn K cd6 "check_open" = true) (k6 : PySem.W.keepIn K (.ref f6) = true)
    (a7 : PySem.W.nsIn K mainGlobals "lines_of" = some (some (.ref f7)))
    (l7 : K.lookup f7 = some ⟨oc7, od7, .func (PySem.W.fnOf "lines_of" "lines_of" (defArgs s_lines_of) (defBody s_lines_of) (defScope s_lines_of) .none kV7 dc7 pm7 an7 cd7 ct7), sl7⟩)
    (c7 : PySem.W.codeIn K cd7 "lines_of" = true) (k7 : PySem.W.keepIn K (.ref f7) = true)
    (a8 : PySem.W.nsIn K mainGlobals "still_like" = some (some (.ref f8)))
    (l8 : K.lookup f8 = some ⟨oc8, od8, .func (PySem.W.fnOf "still_like" "still_like" (defArgs s_still_like) (defBody s_still_like) (defScope s_still_like) .none kV8 dc8 pm8 an8 cd8 ct8), sl8⟩)
    (c8 : PySem.W.codeIn K cd8 "still_like" = true) (k8 : PySem.W.keepIn K (.ref f8) = true)
    (a9 : PySem.W.nsIn K mainGlobals "filled" = some (some (.ref f9)))
    (l9 : K.lookup f9 = some ⟨oc9, od9, .func (PySem.W.fnOf "filled" "filled" (defArgs s_filled) (defBody s_filled) (defScope s_filled) .none kV9 dc9 pm9 an9 cd9 ct9), sl9⟩)
    (c9 : PySem.W.codeIn K cd9 "filled" = true) (k9 : PySem.W.keepIn K (.ref f9) = true)
    (a10 : PySem.W.nsIn K mainGlobals "fillings" = some (some (.ref f10)))
    (l10 : K.lookup f10 = some ⟨oc10, od10, .func (PySem.W.fnOf "fillings" "fillings" (defArgs s_fillings) (defBody s_fillings) (defScope s_fillings) .none kV10 dc10 pm10 an10 cd10 ct10), sl10⟩)
    (c10 : PySem.W.codeIn K cd10 "fillings" = true) (k10 : PySem.W.keepIn K (.ref f10) = true)
    (a11 : PySem.W.nsIn K mainGlobals "how_many" = some (some (.ref f11)))
    (l11 : K.lookup f11 = some ⟨oc11, od11, .func (PySem.W.fnOf "how_many" "how_many" (defArgs s_how_many) (defBody s_how_many) (defScope s_how_many) .none kV11 dc11 pm11 an11 cd11 ct11), sl11⟩)
    (c11 : PySem.W.codeIn K cd11 "how_many" = true) (k11 : PySem.W.keepIn K (.ref f11) = true)
    (a12 : PySem.W.nsIn K mainGlobals "odd_board" = some (some (.ref f12)))
    (l12 : K.lookup f12 = some ⟨oc12, od12, .func (PySem.W.fnOf "odd_board" "odd_board" (defArgs s_odd_board) (defBody s_odd_board) (defScope s_odd_board) .none kV12 dc12 pm12 an12 cd12 ct12), sl12⟩)
    (c12 : PySem.W.codeIn K cd12 "odd_board" = true) (k12 : PySem.W.keepIn K (.ref f12) = true)
    (a13 : PySem.W.nsIn K mainGlobals "fourfold_board" = some (some (.ref f13)))
    (l13 : K.lookup f13 = some ⟨oc13, od13, .func (PySem.W.fnOf "fourfold_board" "fourfold_board" (defArgs s_fourfold_board) (defBody s_fourfold_board) (defScope s_fourfold_board) .none kV13 dc13 pm13 an13 cd13 ct13), sl13⟩)
    (c13 : PySem.W.codeIn K cd13 "fourfold_board" = true) (k13 : PySem.W.keepIn K (.ref f13) = true)
    (a14 : PySem.W.nsIn K mainGlobals "block_of" = some (some (.ref f14)))
    (l14 : K.lookup f14 = some ⟨oc14, od14, .func (PySem.W.fnOf "block_of" "block_of" (defArgs s_block_of) (defBody s_block_of) (defScope s_block_of) .none kV14 dc14 pm14 an14 cd14 ct14), sl14⟩)
    (c14 : PySem.W.codeIn K cd14 "block_of" = true) (k14 : PySem.W.keepIn K (.ref f14) = true)
    (a15 : PySem.W.nsIn K mainGlobals "twofold_board" = some (some (.ref f15)))
    (l15 : K.lookup f15 = some ⟨oc15, od15, .func (PySem.W.fnOf "twofold_board" "twofold_board" (defArgs s_twofold_board) (defBody s_twofold_board) (defScope s_twofold_board) .none kV15 dc15 pm15 an15 cd15 ct15), sl15⟩)
    (c15 : PySem.W.codeIn K cd15 "twofold_board" = true) (k15 : PySem.W.keepIn K (.ref f15) = true)
    (a16 : PySem.W.nsIn K mainGlobals "laid" = some (some (.ref f16)))
    (l16 : K.lookup f16 = some ⟨oc16, od16, .func (PySem.W.fnOf "laid" "laid" (defArgs s_laid) (defBody s_laid) (defScope s_laid) .none kV16 dc16 pm16 an16 cd16 ct16), sl16⟩)
    (c16 : PySem.W.codeIn K cd16 "laid" = true) (k16 : PySem.W.keepIn K (.ref f16) = true)
    (a17 : PySem.W.nsIn K mainGlobals "turn" = some (some (.ref f17)))
    (l17 : K.lookup f17 = some ⟨oc17, od17, .func (PySem.W.fnOf "turn" "turn" (defArgs s_turn) (defBody s_turn) (defScope s_turn) .none kV17 dc17 pm17 an17 cd17 ct17), sl17⟩)
    (c17 : PySem.W.codeIn K cd17 "turn" = true) (k17 : PySem.W.keepIn K (.ref f17) = true)
    (a18 : PySem.W.nsIn K mainGlobals "kin" = some (some (.ref f18)))
    (l18 : K.lookup f18 = some ⟨oc18, od18, .func (PySem.W.fnOf "kin" "kin" (defArgs s_kin) (defBody s_kin) (defScope s_kin) .none kV18 dc18 pm18 an18 cd18 ct18), sl18⟩)
    (c18 : PySem.W.codeIn K cd18 "kin" = true) (k18 : PySem.W.keepIn K (.ref f18) = true)
    (a19 : PySem.W.nsIn K mainGlobals "is_fair" = some (some (.ref f19)))
    (l19 : K.lookup f19 = some ⟨oc19, od19, .func (PySem.W.fnOf "is_fair" "is_fair" (defArgs s_is_fair) (defBody s_is_fair) (defScope s_is_fair) .none kV19 dc19 pm19 an19 cd19 ct19), sl19⟩)
    (c19 : PySem.W.codeIn K cd19 "is_fair" = true) (k19 : PySem.W.keepIn K (.ref f19) = true)
    (a20 : PySem.W.nsIn K mainGlobals "arranged" = some (some (.ref f20)))
    (l20 : K.lookup f20 = some ⟨oc20, od20, .func (PySem.W.fnOf "arranged" "arranged" (defArgs s_arranged) (defBody s_arranged) (defScope s_arranged) .none kV20 dc20 pm20 an20 cd20 ct20), sl20⟩)
    (c20 : PySem.W.codeIn K cd20 "arranged" = true) (k20 : PySem.W.keepIn K (.ref f20) = true)
    (a21 : PySem.W.nsIn K mainGlobals "woven" = some (some (.ref f21)))
    (l21 : K.lookup f21 = some ⟨oc21, od21, .func (PySem.W.fnOf "woven" "woven" (defArgs s_woven) (defBody s_woven) (defScope s_woven) .none kV21 dc21 pm21 an21 cd21 ct21), sl21⟩)
    (c21 : PySem.W.codeIn K cd21 "woven" = true) (k21 : PySem.W.keepIn K (.ref f21) = true)
    (a22 : PySem.W.nsIn K mainGlobals "_law_cell_at" = some (some (.ref f22)))
    (l22 : K.lookup f22 = some ⟨oc22, od22, .func (PySem.W.fnOf "_law_cell_at" "_law_cell_at" (defArgs s__law_cell_at) (defBody s__law_cell_at) (defScope s__law_cell_at) .none kV22 dc22 pm22 an22 cd22 ct22), sl22⟩)
    (c22 : PySem.W.codeIn K cd22 "_law_cell_at" = true) (k22 : PySem.W.keepIn K (.ref f22) = true)
    (a23 : PySem.W.nsIn K mainGlobals "_law_which" = some (some (.ref f23)))
    (l23 : K.lookup f23 = some ⟨oc23, od23, .func (PySem.W.fnOf "_law_which" "_law_which" (defArgs s__law_which) (defBody s__law_which) (defScope s__law_which) .none kV23 dc23 pm23 an23 cd23 ct23), sl23⟩)
    (c23 : PySem.W.codeIn K cd23 "_law_which" = true) (k23 : PySem.W.keepIn K (.ref f23) = true)
    (a24 : PySem.W.nsIn K mainGlobals "_law_met" = some (some (.ref f24)))
    (l24 : K.lookup f24 = some ⟨oc24, od24, .func (PySem.W.fnOf "_law_met" "_law_met" (defArgs s__law_met) (defBody s__law_met) (defScope s__law_met) .none kV24 dc24 pm24 an24 cd24 ct24), sl24⟩)
    (c24 : PySem.W.codeIn K cd24 "_law_met" = true) (k24 : PySem.W.keepIn K (.ref f24) = true)
    (a25 : PySem.W.nsIn K mainGlobals "law" = some (some (.ref f25)))
    (l25 : K.lookup f25 = some ⟨oc25, od25, .func (PySem.W.fnOf "law" "law" (defArgs s_law) (defBody s_law) (defScope s_law) .none kV25 dc25 pm25 an25 cd25 ct25), sl25⟩)
    (c25 : PySem.W.codeIn K cd25 "law" = true) (k25 : PySem.W.keepIn K (.ref f25) = true)
    (ac9 : PySem.W.nsIn K mainGlobals "SumError" = some (some (.ref C9))) (kc9 : PySem.W.keepIn K (.ref C9) = true) (bc9 : PySem.W.subIn K (.ref C9) (.type "BaseException") = some true) (tc9 : PySem.W.typeIn K (.ref C9) = some (.type "type"))
    (ac0 : PySem.W.nsIn K mainGlobals "BadBoard" = some (some (.ref C0))) (kc0 : PySem.W.keepIn K (.ref C0) = true) (bc0 : PySem.W.subIn K (.ref C0) (.type "BaseException") = some true) (tc0 : PySem.W.typeIn K (.ref C0) = some (.type "type"))
    (x0 : PySem.W.excIn K C0 [.type "ValueError", .type "Exception", .type "BaseException", .type "object"] "ValueError.__new__" = true)
    (ac1 : PySem.W.nsIn K mainGlobals "BadOrder" = some (some (.ref C1))) (kc1 : PySem.W.keepIn K (.ref C1) = true) (bc1 : PySem.W.subIn K (.ref C1) (.type "BaseException") = some true) (tc1 : PySem.W.typeIn K (.ref C1) = some (.type "type"))
    (x1 : PySem.W.excIn K C1 [.type "ValueError", .type "Exception", .type "BaseException", .type "object"] "ValueError.__new__" = true)
    (ac2 : PySem.W.nsIn K mainGlobals "NoSize" = some (some (.ref C2))) (kc2 : PySem.W.keepIn K (.ref C2) = true) (bc2 : PySem.W.subIn K (.ref C2) (.type "BaseException") = some true) (tc2 : PySem.W.typeIn K (.ref C2) = some (.type "type"))
    (x2 : PySem.W.excIn K C2 [.type "ValueError", .type "Exception", .type "BaseException", .type "object"] "ValueError.__new__" = true)
    (ac3 : PySem.W.nsIn K mainGlobals "TooOpen" = some (some (.ref C3))) (kc3 : PySem.W.keepIn K (.ref C3) = true) (bc3 : PySem.W.subIn K (.ref C3) (.type "BaseException") = some true) (tc3 : PySem.W.typeIn K (.ref C3) = some (.type "type"))
    (x3 : PySem.W.excIn K C3 [.type "ValueError", .type "Exception", .type "BaseException", .type "object"] "ValueError.__new__" = true)
    (hd9 : PySem.W.hasDictIn K C9 = true)
    (hd0 : PySem.W.hasDictIn K C0 = true)
    (ga0 : PySem.W.findIn K (.ref C0) "__getattribute__" = some (some (.builtin "BaseException.__getattribute__"))) (gt0 : PySem.W.findIn K (.ref C0) "__getattr__" = some none) (gc0 : PySem.W.findIn K (.ref C0) "__class__" = some (some (.builtin "object.__class__"))) (mo0 : PySem.W.mroIn K C0 (.type "object") = some true)
    (kv0 : PySem.W.kitOne K (.ref C0) (.type "ValueError") = some true)
    (ks0_9 : PySem.W.kitOne K (.ref C0) (.ref C9) = some true) (es0_9 : PySem.W.subIn K (.ref C0) (.ref C9) = some true)
    (ks0_0 : PySem.W.kitOne K (.ref C0) (.ref C0) = some true) (es0_0 : PySem.W.subIn K (.ref C0) (.ref C0) = some true)
    (ks0_1 : PySem.W.kitOne K (.ref C0) (.ref C1) = some false) (es0_1 : PySem.W.subIn K (.ref C0) (.ref C1) = some false)
    (ks0_2 : PySem.W.kitOne K (.ref C0) (.ref C2) = some false) (es0_2 : PySem.W.subIn K (.ref C0) (.ref C2) = some false)
    (ks0_3 : PySem.W.kitOne K (.ref C0) (.ref C3) = some false) (es0_3 : PySem.W.subIn K (.ref C0) (.ref C3) = some false)
    (hd1 : PySem.W.hasDictIn K C1 = true)
    (ga1 : PySem.W.findIn K (.ref C1) "__getattribute__" = some (some (.builtin "BaseException.__getattribute__"))) (gt1 : PySem.W.findIn K (.ref C1) "__getattr__" = some none) (gc1 : PySem.W.findIn K (.ref C1) "__class__" = some (some (.builtin "object.__class__"))) (mo1 : PySem.W.mroIn K C1 (.type "object") = some true)
    (kv1 : PySem.W.kitOne K (.ref C1) (.type "ValueError") = some true)
    (ks1_9 : PySem.W.kitOne K (.ref C1) (.ref C9) = some true) (es1_9 : PySem.W.subIn K (.ref C1) (.ref C9) = some true)
    (ks1_0 : PySem.W.kitOne K (.ref C1) (.ref C0) = some false) (es1_0 : PySem.W.subIn K (.ref C1) (.ref C0) = some false)
    (ks1_1 : PySem.W.kitOne K (.ref C1) (.ref C1) = some true) (es1_1 : PySem.W.subIn K (.ref C1) (.ref C1) = some true)
    (ks1_2 : PySem.W.kitOne K (.ref C1) (.ref C2) = some false) (es1_2 : PySem.W.subIn K (.ref C1) (.ref C2) = some false)
    (ks1_3 : PySem.W.kitOne K (.ref C1) (.ref C3) = some false) (es1_3 : PySem.W.subIn K (.ref C1) (.ref C3) = some false)
    (hd2 : PySem.W.hasDictIn K C2 = true)
    (ga2 : PySem.W.findIn K (.ref C2) "__getattribute__" = some (some (.builtin "BaseException.__getattribute__"))) (gt2 : PySem.W.findIn K (.ref C2) "__getattr__" = some none) (gc2 : PySem.W.findIn K (.ref C2) "__class__" = some (some (.builtin "object.__class__"))) (mo2 : PySem.W.mroIn K C2 (.type "object") = some true)
    (kv2 : PySem.W.kitOne K (.ref C2) (.type "ValueError") = some true)
    (ks2_9 : PySem.W.kitOne K (.ref C2) (.ref C9) = some true) (es2_9 : PySem.W.subIn K (.ref C2) (.ref C9) = some true)
    (ks2_0 : PySem.W.kitOne K (.ref C2) (.ref C0) = some false) (es2_0 : PySem.W.subIn K (.ref C2) (.ref C0) = some false)
    (ks2_1 : PySem.W.kitOne K (.ref C2) (.ref C1) = some false) (es2_1 : PySem.W.subIn K (.ref C2) (.ref C1) = some false)
    (ks2_2 : PySem.W.kitOne K (.ref C2) (.ref C2) = some true) (es2_2 : PySem.W.subIn K (.ref C2) (.ref C2) = some true)
    (ks2_3 : PySem.W.kitOne K (.ref C2) (.ref C3) = some false) (es2_3 : PySem.W.subIn K (.ref C2) (.ref C3) = some false)
    (hd3 : PySem.W.hasDictIn K C3 = true)
    (ga3 : PySem.W.findIn K (.ref C3) "__getattribute__" = some (some (.builtin "BaseException.__getattribute__"))) (gt3 : PySem.W.findIn K (.ref C3) "__getattr__" = some none) (gc3 : PySem.W.findIn K (.ref C3) "__class__" = some (some (.builtin "object.__class__"))) (mo3 : PySem.W.mroIn K C3 (.type "object") = some true)
    (kv3 : PySem.W.kitOne K (.ref C3) (.type "ValueError") = some true)
    (ks3_9 : PySem.W.kitOne K (.ref C3) (.ref C9) = some true) (es3_9 : PySem.W.subIn K (.ref C3) (.ref C9) = some true)
    (ks3_0 : PySem.W.kitOne K (.ref C3) (.ref C0) = some false) (es3_0 : PySem.W.subIn K (.ref C3) (.ref C0) = some false)
    (ks3_1 : PySem.W.kitOne K (.ref C3) (.ref C1) = some false) (es3_1 : PySem.W.subIn K (.ref C3) (.ref C1) = some false)
    (ks3_2 : PySem.W.kitOne K (.ref C3) (.ref C2) = some false) (es3_2 : PySem.W.subIn K (.ref C3) (.ref C2) = some false)
    (ks3_3 : PySem.W.kitOne K (.ref C3) (.ref C3) = some true) (es3_3 : PySem.W.subIn K (.ref C3) (.ref C3) = some true)
    (og : PySem.W.specialIn K (.builtin "object.__class__") "__get__" = some (some (.builtin "getset_descriptor.__get__"))) (ot : PySem.W.takesIn K (.builtin "object.__class__") = some true)
    (u0 : PySem.W.nsIn K mainGlobals "MOST" = some (some (.int 12 tk0)))
    (u1 : PySem.W.nsIn K mainGlobals "MOST_SIZE" = some (some (.int 4 tk1)))
    (u2 : PySem.W.nsIn K mainGlobals "MOST_OPEN" = some (some (.int 6 tk2)))
    (z0 : PySem.W.nsIn K mainGlobals "ValueError" = some none)
    (z1 : PySem.W.nsIn K mainGlobals "all" = some none)
    (z2 : PySem.W.nsIn K mainGlobals "isinstance" = some none)
    (z3 : PySem.W.nsIn K mainGlobals "len" = some none)
    (z4 : PySem.W.nsIn K mainGlobals "list" = some none)
    (z5 : PySem.W.nsIn K mainGlobals "range" = some none)
    (z6 : PySem.W.nsIn K mainGlobals "set" = some none)
    (z7 : PySem.W.nsIn K mainGlobals "sorted" = some none)
    (z8 : PySem.W.nsIn K mainGlobals "sum" = some none) :
    ∃ fd : FuncData, (∀ (s : Shared) (v : Value), BindsTo s fd ⟨[v], []⟩ [("script", v)]) ∧ ∀ base : Heap, K.In base → base.Ns mainGlobals mg → FnOk P w K mg base (L2.CX P w) 17 fa fd ["script"] (spW m_law K) := by
  have e := hfa.symm.trans (PySem.W.mg_of X G a25)
  cases e
  have F0 := fun_mk (st := s_flat) l0 c0 k0
  have b0 := F0.binds (ps := ["board"]) fun _ _ _ _ _ _ us hl => match us, hl with | [_], _ => rfl
  have F1 := fun_mk (st := s_is_square) l1 c1 k1
  have b1 := F1.binds (ps := ["board", "most"]) fun _ _ _ _ _ _ us hl => match us, hl with | [_, _], _ => rfl
  have F2 := fun_mk (st := s_check_board) l2 c2 k2
  have b2 := F2.binds (ps := ["board"]) fun _ _ _ _ _ _ us hl => match us, hl with | [_], _ => rfl
  have F3 := fun_mk (st := s_all_sums) l3 c3 k3
  have b3 := F3.binds (ps := ["board"]) fun _ _ _ _ _ _ us hl => match us, hl with | [_], _ => rfl
  have F4 := fun_mk (st := s_sums) l4 c4 k4
  have b4 := F4.binds (ps := ["board"]) fun _ _ _ _ _ _ us hl => match us, hl with | [_], _ => rfl
  have F5 := fun_mk (st := s_one_sum) l5 c5 k5
  have b5 := F5.binds (ps := ["board"]) fun _ _ _ _ _ _ us hl => match us, hl with | [_], _ => rfl
  have F6 := fun_mk (st := s_check_open) l6 c6 k6
  have b6 := F6.binds (ps := ["board"]) fun _ _ _ _ _ _ us hl => match us, hl with | [_], _ => rfl
  have F7 := fun_mk (st := s_lines_of) l7 c7 k7
  have b7 := F7.binds (ps := ["size"]) fun _ _ _ _ _ _ us hl => match us, hl with | [_], _ => rfl
  have F8 := fun_mk (st := s_still_like) l8 c8 k8
  have b8 := F8.binds (ps := ["numbers", "lines", "due"]) fun _ _ _ _ _ _ us hl => match us, hl with | [_, _, _], _ => rfl
  have F9 := fun_mk (st := s_filled) l9 c9 k9
  have b9 := F9.binds (ps := ["numbers", "lines", "due"]) fun _ _ _ _ _ _ us hl => match us, hl with | [_, _, _], _ => rfl
  have F10 := fun_mk (st := s_fillings) l10 c10 k10
  have b10 := F10.binds (ps := ["board"]) fun _ _ _ _ _ _ us hl => match us, hl with | [_], _ => rfl
  have F11 := fun_mk (st := s_how_many) l11 c11 k11
  have b11 := F11.binds (ps := ["board"]) fun _ _ _ _ _ _ us hl => match us, hl with | [_], _ => rfl
  have F12 := fun_mk (st := s_odd_board) l12 c12 k12
  have b12 := F12.binds (ps := ["size"]) fun _ _ _ _ _ _ us hl => match us, hl with | [_], _ => rfl
  have F13 := fun_mk (st := s_fourfold_board) l13 c13 k13
  have b13 := F13.binds (ps := ["size"]) fun _ _ _ _ _ _ us hl => match us, hl with | [_], _ => rfl
  have F14 := fun_mk (st := s_block_of) l14 c14 k14
  have b14 := F14.binds (ps := ["r", "c", "half"]) fun _ _ _ _ _ _ us hl => match us, hl with | [_, _, _], _ => rfl
  have F15 := fun_mk (st := s_twofold_board) l15 c15 k15
  have b15 := F15.binds (ps := ["size"]) fun _ _ _ _ _ _ us hl => match us, hl with | [_], _ => rfl
  have F16 := fun_mk (st := s_laid) l16 c16 k16
  have b16 := F16.binds (ps := ["size"]) fun _ _ _ _ _ _ us hl => match us, hl with | [_], _ => rfl
  have F17 := fun_mk (st := s_turn) l17 c17 k17
  have b17 := F17.binds (ps := ["board"]) fun _ _ _ _ _ _ us hl => match us, hl with | [_], _ => rfl
  have F18 := fun_mk (st := s_kin) l18 c18 k18
  have b18 := F18.binds (ps := ["board"]) fun _ _ _ _ _ _ us hl => match us, hl with | [_], _ => rfl
  have F19 := fun_mk (st := s_is_fair) l19 c19 k19
  have b19 := F19.binds (ps := ["order", "size"]) fun _ _ _ _ _ _ us hl => match us, hl with | [_, _], _ => rfl
  have F20 := fun_mk (st := s_arranged) l20 c20 k20
  have b20 := F20.binds (ps := ["board", "order"]) fun _ _ _ _ _ _ us hl => match us, hl with | [_, _], _ => rfl
  have F21 := fun_mk (st := s_woven) l21 c21 k21
  have b21 := F21.binds (ps := ["outer", "inner"]) fun _ _ _ _ _ _ us hl => match us, hl with | [_, _], _ => rfl
  have F22 := fun_mk (st := s__law_cell_at) l22 c22 k22
  have b22 := F22.binds (ps := ["script", "k"]) fun _ _ _ _ _ _ us hl => match us, hl with | [_, _], _ => rfl
  have F23 := fun_mk (st := s__law_which) l23 c23 k23
  have b23 := F23.binds (ps := ["e"]) fun _ _ _ _ _ _ us hl => match us, hl with | [_], _ => rfl
  have F24 := fun_mk (st := s__law_met) l24 c24 k24
  have b24 := F24.binds (ps := ["way"]) fun _ _ _ _ _ _ us hl => match us, hl with | [_], _ => rfl
  have F25 := fun_mk (st := s_law) l25 c25 k25
  have b25 := F25.binds (ps := ["script"]) fun _ _ _ _ _ _ us hl => match us, hl with | [_], _ => rfl
  have T : Txt K mg (fun i => match i with | 0 => C0 | 1 => C1 | 2 => C2 | 3 => C3 | _ => C9) (fun i => match i with | 0 => f0 | 1 => f1 | 2 => f2 | 3 => f3 | 4 => f4 | 5 => f5 | 6 => f6 | 7 => f7 | 8 => f8 | 9 => f9 | 10 => f10 | 11 => f11 | 12 => f12 | 13 => f13 | 14 => f14 | 15 => f15 | 16 => f16 | 17 => f17 | 18 => f18 | 19 => f19 | 20 => f20 | 21 => f21 | 22 => f22 | 23 => f23 | 24 => f24 | _ => fa) (fun i => match i with | 0 => PySem.W.fnOf "flat" "flat" (defArgs s_flat) (defBody s_flat) (defScope s_flat) .none kV0 dc0 pm0 an0 cd0 ct0 | 1 => PySem.W.fnOf "is_square" "is_square" (defArgs s_is_square) (defBody s_is_square) (defScope s_is_square) .none kV1 dc1 pm1 an1 cd1 ct1 | 2 => PySem.W.fnOf "check_board" "check_board" (defArgs s_check_board) (defBody s_check_board) (defScope s_check_board) .none kV2 dc2 pm2 an2 cd2 ct2 | 3 => PySem.W.fnOf "all_sums" "all_sums" (defArgs s_all_sums) (defBody s_all_sums) (defScope s_all_sums) .none kV3 dc3 pm3 an3 cd3 ct3 | 4 => PySem.W.fnOf "sums" "sums" (defArgs s_sums) (defBody s_sums) (defScope s_sums) .none kV4 dc4 pm4 an4 cd4 ct4 | 5 => PySem.W.fnOf "one_sum" "one_sum" (defArgs s_one_sum) (defBody s_one_sum) (defScope s_one_sum) .none kV5 dc5 pm5 an5 cd5 ct5 | 6 => PySem.W.fnOf "check_open" "check_open" (defArgs s_check_open) (defBody s_check_open) (defScope s_check_open) .none kV6 dc6 pm6 an6 cd6 ct6 | 7 => PySem.W.fnOf "lines_of" "lines_of" (defArgs s_lines_of) (defBody s_lines_of) (defScope s_lines_of) .none kV7 dc7 pm7 an7 cd7 ct7 | 8 => PySem.W.fnOf "still_like" "still_like" (defArgs s_still_like) (defBody s_still_like) (defScope s_still_like) .none kV8 dc8 pm8 an8 cd8 ct8 | 9 => PySem.W.fnOf "filled" "filled" (defArgs s_filled) (defBody s_filled) (defScope s_filled) .none kV9 dc9 pm9 an9 cd9 ct9 | 10 => PySem.W.fnOf "fillings" "fillings" (defArgs s_fillings) (defBody s_fillings) (defScope s_fillings) .none kV10 dc10 pm10 an10 cd10 ct10 | 11 => PySem.W.fnOf "how_many" "how_many" (defArgs s_how_many) (defBody s_how_many) (defScope s_how_many) .none kV11 dc11 pm11 an11 cd11 ct11 | 12 => PySem.W.fnOf "odd_board" "odd_board" (defArgs s_odd_board) (defBody s_odd_board) (defScope s_odd_board) .none kV12 dc12 pm12 an12 cd12 ct12 | 13 => PySem.W.fnOf "fourfold_board" "fourfold_board" (defArgs s_fourfold_board) (defBody s_fourfold_board) (defScope s_fourfold_board) .none kV13 dc13 pm13 an13 cd13 ct13 | 14 => PySem.W.fnOf "block_of" "block_of" (defArgs s_block_of) (defBody s_block_of) (defScope s_block_of) .none kV14 dc14 pm14 an14 cd14 ct14 | 15 => PySem.W.fnOf "twofold_board" "twofold_board" (defArgs s_twofold_board) (defBody s_twofold_board) (defScope s_twofold_board) .none kV15 dc15 pm15 an15 cd15 ct15 | 16 => PySem.W.fnOf "laid" "laid" (defArgs s_laid) (defBody s_laid) (defScope s_laid) .none kV16 dc16 pm16 an16 cd16 ct16 | 17 => PySem.W.fnOf "turn" "turn" (defArgs s_turn) (defBody s_turn) (defScope s_turn) .none kV17 dc17 pm17 an17 cd17 ct17 | 18 => PySem.W.fnOf "kin" "kin" (defArgs s_kin) (defBody s_kin) (defScope s_kin) .none kV18 dc18 pm18 an18 cd18 ct18 | 19 => PySem.W.fnOf "is_fair" "is_fair" (defArgs s_is_fair) (defBody s_is_fair) (defScope s_is_fair) .none kV19 dc19 pm19 an19 cd19 ct19 | 20 => PySem.W.fnOf "arranged" "arranged" (defArgs s_arranged) (defBody s_arranged) (defScope s_arranged) .none kV20 dc20 pm20 an20 cd20 ct20 | 21 => PySem.W.fnOf "woven" "woven" (defArgs s_woven) (defBody s_woven) (defScope s_woven) .none kV21 dc21 pm21 an21 cd21 ct21 | 22 => PySem.W.fnOf "_law_cell_at" "_law_cell_at" (defArgs s__law_cell_at) (defBody s__law_cell_at) (defScope s__law_cell_at) .none kV22 dc22 pm22 an22 cd22 ct22 | 23 => PySem.W.fnOf "_law_which" "_law_which" (defArgs s__law_which) (defBody s__law_which) (defScope s__law_which) .none kV23 dc23 pm23 an23 cd23 ct23 | 24 => PySem.W.fnOf "_law_met" "_law_met" (defArgs s__law_met) (defBody s__law_met) (defScope s__law_met) .none kV24 dc24 pm24 an24 cd24 ct24 | _ => PySem.W.fnOf "law" "law" (defArgs s_law) (defBody s_law) (defScope s_law) .none kV25 dc25 pm25 an25 cd25 ct25) (fun i => match i with | 0 => .int 12 tk0 | 1 => .int 4 tk1 | 2 => .int 6 tk2 | _ => .none) :=
    { F_flat := F0, g_flat := PySem.W.mg_of X G a0, b_flat := b0,
      F_is_square := F1, g_is_square := PySem.W.mg_of X G a1, b_is_square := b1,
      F_check_board := F2, g_check_board := PySem.W.mg_of X G a2, b_check_board := b2,
      F_all_sums := F3, g_all_sums := PySem.W.mg_of X G a3, b_all_sums := b3,
      F_sums := F4, g_sums := PySem.W.mg_of X G a4, b_sums := b4,
      F_one_sum := F5, g_one_sum := PySem.W.mg_of X G a5, b_one_sum := b5,
      F_check_open := F6, g_check_open := PySem.W.mg_of X G a6, b_check_open := b6,
      F_lines_of := F7, g_lines_of := PySem.W.mg_of X G a7, b_lines_of := b7,
      F_still_like := F8, g_still_like := PySem.W.mg_of X G a8, b_still_like := b8,
      F_filled := F9, g_filled := PySem.W.mg_of X G a9, b_filled := b9,
      F_fillings := F10, g_fillings := PySem.W.mg_of X G a10, b_fillings := b10,
      F_how_many := F11, g_how_many := PySem.W.mg_of X G a11, b_how_many := b11,
      F_odd_board := F12, g_odd_board := PySem.W.mg_of X G a12, b_odd_board := b12,
      F_fourfold_board := F13, g_fourfold_board := PySem.W.mg_of X G a13, b_fourfold_board := b13,
      F_block_of := F14, g_block_of := PySem.W.mg_of X G a14, b_block_of := b14,
      F_twofold_board := F15, g_twofold_board := PySem.W.mg_of X G a15, b_twofold_board := b15,
      F_laid := F16, g_laid := PySem.W.mg_of X G a16, b_laid := b16,
      F_turn := F17, g_turn := PySem.W.mg_of X G a17, b_turn := b17,
      F_kin := F18, g_kin := PySem.W.mg_of X G a18, b_kin := b18,
      F_is_fair := F19, g_is_fair := PySem.W.mg_of X G a19, b_is_fair := b19,
      F_arranged := F20, g_arranged := PySem.W.mg_of X G a20, b_arranged := b20,
      F_woven := F21, g_woven := PySem.W.mg_of X G a21, b_woven := b21,
      F__law_cell_at := F22, g__law_cell_at := PySem.W.mg_of X G a22, b__law_cell_at := b22,
      F__law_which := F23, g__law_which := PySem.W.mg_of X G a23, b__law_which := b23,
      F__law_met := F24, g__law_met := PySem.W.mg_of X G a24, b__law_met := b24,
      F_law := F25, g_law := PySem.W.mg_of X G a25, b_law := b25,
      n_ValueError := PySem.W.mg_none_of X G z0,
      n_all := PySem.W.mg_none_of X G z1,
      n_isinstance := PySem.W.mg_none_of X G z2,
      n_len := PySem.W.mg_none_of X G z3,
      n_list := PySem.W.mg_none_of X G z4,
      n_range := PySem.W.mg_none_of X G z5,
      n_set := PySem.W.mg_none_of X G z6,
      n_sorted := PySem.W.mg_none_of X G z7,
      n_sum := PySem.W.mg_none_of X G z8,
      k_MOST := ⟨PySem.W.mg_of X G u0, ⟨_, rfl⟩⟩,
      k_MOST_SIZE := ⟨PySem.W.mg_of X G u1, ⟨_, rfl⟩⟩,
      k_MOST_OPEN := ⟨PySem.W.mg_of X G u2, ⟨_, rfl⟩⟩,
      c_SumError := PySem.W.mg_of X G ac9, kc_SumError := kc9, bc_SumError := bc9, tc_SumError := tc9,
      c_BadBoard := PySem.W.mg_of X G ac0, kc_BadBoard := kc0, bc_BadBoard := bc0, tc_BadBoard := tc0,
      x_BadBoard := x0,
      xc_BadBoard := ⟨ga0, gt0, bc0, hd0, gc0, og, ot, mo0⟩, kv_BadBoard := kv0,
      ks_BadBoard_SumError := ks0_9, em_BadBoard_SumError := PySem.W.exm_ref bc9 hd9 tc9 es0_9,
      ks_BadBoard_BadBoard := ks0_0, em_BadBoard_BadBoard := PySem.W.exm_ref bc0 hd0 tc0 es0_0,
      ks_BadBoard_BadOrder := ks0_1, em_BadBoard_BadOrder := PySem.W.exm_ref bc1 hd1 tc1 es0_1,
      ks_BadBoard_NoSize := ks0_2, em_BadBoard_NoSize := PySem.W.exm_ref bc2 hd2 tc2 es0_2,
      ks_BadBoard_TooOpen := ks0_3, em_BadBoard_TooOpen := PySem.W.exm_ref bc3 hd3 tc3 es0_3,
      c_BadOrder := PySem.W.mg_of X G ac1, kc_BadOrder := kc1, bc_BadOrder := bc1, tc_BadOrder := tc1,
      x_BadOrder := x1,
      xc_BadOrder := ⟨ga1, gt1, bc1, hd1, gc1, og, ot, mo1⟩, kv_BadOrder := kv1,
      ks_BadOrder_SumError := ks1_9, em_BadOrder_SumError := PySem.W.exm_ref bc9 hd9 tc9 es1_9,
      ks_BadOrder_BadBoard := ks1_0, em_BadOrder_BadBoard := PySem.W.exm_ref bc0 hd0 tc0 es1_0,
      ks_BadOrder_BadOrder := ks1_1, em_BadOrder_BadOrder := PySem.W.exm_ref bc1 hd1 tc1 es1_1,
      ks_BadOrder_NoSize := ks1_2, em_BadOrder_NoSize := PySem.W.exm_ref bc2 hd2 tc2 es1_2,
      ks_BadOrder_TooOpen := ks1_3, em_BadOrder_TooOpen := PySem.W.exm_ref bc3 hd3 tc3 es1_3,
      c_NoSize := PySem.W.mg_of X G ac2, kc_NoSize := kc2, bc_NoSize := bc2, tc_NoSize := tc2,
      x_NoSize := x2,
      xc_NoSize := ⟨ga2, gt2, bc2, hd2, gc2, og, ot, mo2⟩, kv_NoSize := kv2,
      ks_NoSize_SumError := ks2_9, em_NoSize_SumError := PySem.W.exm_ref bc9 hd9 tc9 es2_9,
      ks_NoSize_BadBoard := ks2_0, em_NoSize_BadBoard := PySem.W.exm_ref bc0 hd0 tc0 es2_0,
      ks_NoSize_BadOrder := ks2_1, em_NoSize_BadOrder := PySem.W.exm_ref bc1 hd1 tc1 es2_1,
      ks_NoSize_NoSize := ks2_2, em_NoSize_NoSize := PySem.W.exm_ref bc2 hd2 tc2 es2_2,
      ks_NoSize_TooOpen := ks2_3, em_NoSize_TooOpen := PySem.W.exm_ref bc3 hd3 tc3 es2_3,
      c_TooOpen := PySem.W.mg_of X G ac3, kc_TooOpen := kc3, bc_TooOpen := bc3, tc_TooOpen := tc3,
      x_TooOpen := x3,
      xc_TooOpen := ⟨ga3, gt3, bc3, hd3, gc3, og, ot, mo3⟩, kv_TooOpen := kv3,
      ks_TooOpen_SumError := ks3_9, em_TooOpen_SumError := PySem.W.exm_ref bc9 hd9 tc9 es3_9,
      ks_TooOpen_BadBoard := ks3_0, em_TooOpen_BadBoard := PySem.W.exm_ref bc0 hd0 tc0 es3_0,
      ks_TooOpen_BadOrder := ks3_1, em_TooOpen_BadOrder := PySem.W.exm_ref bc1 hd1 tc1 es3_1,
      ks_TooOpen_NoSize := ks3_2, em_TooOpen_NoSize := PySem.W.exm_ref bc2 hd2 tc2 es3_2,
      ks_TooOpen_TooOpen := ks3_3, em_TooOpen_TooOpen := PySem.W.exm_ref bc3 hd3 tc3 es3_3 }
  exact ⟨PySem.W.fnOf "law" "law" (defArgs s_law) (defBody s_law) (defScope s_law) .none kV25 dc25 pm25 an25 cd25 ct25, fun s v => .of_eq rfl, fun base _ _ => (ok_law T).imp fun _ _ _ _ z => spW_of z⟩
end DL
open PySem PySem.W PyProof.Rows
set_option maxHeartbeats 0 in
theorem PySem.Challenge.cw_likesums_k11_refusals_apart_holds : PySem.Challenge.rw_likesums_k11_refusals_apart.Holds := by
  w_on; o_law; k_head; (case hw => w_witness2)
  k_fill
  refine L2.walk_of (l := PySem.Challenge.rw_likesums_k11_refusals_apart) (n := 63) (k := 17) (x := "script") (CX := fun w => L2.CX PySem.Challenge.rw_likesums_k11_refusals_apart.prog w) (sp := fun w => DL.spW DL.m_law _) rfl (by decide) rfl ⟨rfl, by decide, by decide⟩ (fun w h Y => PySem.W.kIn_of Y) ?F (fun _ _ a ns _ _ hS => ⟨a, ns, rfl, hS, DL.law_ok ns, fun _ => rfl⟩) (fun _ _ _ _ _ h => DL.cx_never h)
  case F =>
    intro w mg fa h KX G hmg
    refine' DL.all_mk KX G hmg ?a0 ?l0 ?c0 ?k0 ?a1 ?l1 ?c1 ?k1 ?a2 ?l2 ?c2 ?k2 ?a3 ?l3 ?c3 ?k3 ?a4 ?l4 ?c4 ?k4 ?a5 ?l5 ?c5 ?k5 ?a6 ?l6 ?c6 ?k6 ?a7 ?l7 ?c7 ?k7 ?a8 ?l8 ?c8 ?k8 ?a9 ?l9 ?c9 ?k9 ?a10 ?l10 ?c10 ?k10 ?a11 ?l11 ?c11 ?k11 ?a12 ?l12 ?c12 ?k12 ?a13 ?l13 ?c13 ?k13 ?a14 ?l14 ?c14 ?k14 ?a15 ?l15 ?c15 ?k15 ?a16 ?l16 ?c16 ?k16 ?a17 ?l17 ?c17 ?k17 ?a18 ?l18 ?c18 ?k18 ?a19 ?l19 ?c19 ?k19 ?a20 ?l20 ?c20 ?k20 ?a21 ?l21 ?c21 ?k21 ?a22 ?l22 ?c22 ?k22 ?a23 ?l23 ?c23 ?k23 ?a24 ?l24 ?c24 ?k24 ?a25 ?l25 ?c25 ?k25 ?ac9 ?kc9 ?bc9 ?tc9 ?ac0 ?kc0 ?bc0 ?tc0 ?x0 ?ac1 ?kc1 ?bc1 ?tc1 ?x1 ?ac2 ?kc2 ?bc2 ?tc2 ?x2 ?ac3 ?kc3 ?bc3 ?tc3 ?x3 ?hd9 ?hd0 ?ga0 ?gt0 ?gc0 ?mo0 ?kv0 ?ks0_9 ?es0_9 ?ks0_0 ?es0_0 ?ks0_1 ?es0_1 ?ks0_2 ?es0_2 ?ks0_3 ?es0_3 ?hd1 ?ga1 ?gt1 ?gc1 ?mo1 ?kv1 ?ks1_9 ?es1_9 ?ks1_0 ?es1_0 ?ks1_1 ?es1_1 ?ks1_2 ?es1_2 ?ks1_3 ?es1_3 ?hd2 ?ga2 ?gt2 ?gc2 ?mo2 ?kv2 ?ks2_9 ?es2_9 ?ks2_0 ?es2_0 ?ks2_1 ?es2_1 ?ks2_2 ?es2_2 ?ks2_3 ?es2_3 ?hd3 ?ga3 ?gt3 ?gc3 ?mo3 ?kv3 ?ks3_9 ?es3_9 ?ks3_0 ?es3_0 ?ks3_1 ?es3_1 ?ks3_2 ?es3_2 ?ks3_3 ?es3_3 ?og ?ot ?u0 ?u1 ?u2 ?z0 ?z1 ?z2 ?z3 ?z4 ?z5 ?z6 ?z7 ?z8
    (case a0 => k_is)
    (case l0 => k_is)
    (case c0 => k_is)
    (case k0 => k_is)
    (case a1 => k_is)
    (case l1 => k_is)
    (case c1 => k_is)
    (case k1 => k_is)
    (case a2 => k_is)
    (case l2 => k_is)
    (case c2 => k_is)
    (case k2 => k_is)
    (case a3 => k_is)
    (case l3 => k_is)
    (case c3 => k_is)
    (case k3 => k_is)
    (case a4 => k_is)
    (case l4 => k_is)
    (case c4 => k_is)
    (case k4 => k_is)
    (case a5 => k_is)
    (case l5 => k_is)
    (case c5 => k_is)
    (case k5 => k_is)
    (case a6 => k_is)
    (case l6 => k_is)
    (case c6 => k_is)
    (case k6 => k_is)
    (case a7 => k_is)
    (case l7 => k_is)
    (case c7 => k_is)
    (case k7 => k_is)
    (case a8 => k_is)
    (case l8 => k_is)
    (case c8 => k_is)
    (case k8 => k_is)
    (case a9 => k_is)
    (case l9 => k_is)
    (case c9 => k_is)
    (case k9 => k_is)
    (case a10 => k_is)
    (case l10 => k_is)
    (case c10 => k_is)
    (case k10 => k_is)
    (case a11 => k_is)
    (case l11 => k_is)
    (case c11 => k_is)
    (case k11 => k_is)
    (case a12 => k_is)
    (case l12 => k_is)
    (case c12 => k_is)
    (case k12 => k_is)
    (case a13 => k_is)
    (case l13 => k_is)
    (case c13 => k_is)
    (case k13 => k_is)
    (case a14 => k_is)
    (case l14 => k_is)
    (case c14 => k_is)
    (case k14 => k_is)
    (case a15 => k_is)
    (case l15 => k_is)
    (case c15 => k_is)
    (case k15 => k_is)
    (case a16 => k_is)
    (case l16 => k_is)
    (case c16 => k_is)
    (case k16 => k_is)
    (case a17 => k_is)
    (case l17 => k_is)
    (case c17 => k_is)
    (case k17 => k_is)
    (case a18 => k_is)
    (case l18 => k_is)
    (case c18 => k_is)
    (case k18 => k_is)
    (case a19 => k_is)
    (case l19 => k_is)
    (case c19 => k_is)
    (case k19 => k_is)
    (case a20 => k_is)
    (case l20 => k_is)
    (case c20 => k_is)
    (case k20 => k_is)
    (case a21 => k_is)
    (case l21 => k_is)
    (case c21 => k_is)
    (case k21 => k_is)
    (case a22 => k_is)
    (case l22 => k_is)
    (case c22 => k_is)
    (case k22 => k_is)
    (case a23 => k_is)
    (case l23 => k_is)
    (case c23 => k_is)
    (case k23 => k_is)
    (case a24 => k_is)
    (case l24 => k_is)
    (case c24 => k_is)
    (case k24 => k_is)
    (case a25 => k_is)
    (case l25 => k_is)
    (case c25 => k_is)
    (case k25 => k_is)
    (case ac9 => k_is)
    (case kc9 => k_is)
    (case bc9 => k_is)
    (case tc9 => k_is)
    (case ac0 => k_is)
    (case kc0 => k_is)
    (case bc0 => k_is)
    (case tc0 => k_is)
    (case x0 => k_exc)
    (case ac1 => k_is)
    (case kc1 => k_is)
    (case bc1 => k_is)
    (case tc1 => k_is)
    (case x1 => k_exc)
    (case ac2 => k_is)
    (case kc2 => k_is)
    (case bc2 => k_is)
    (case tc2 => k_is)
    (case x2 => k_exc)
    (case ac3 => k_is)
    (case kc3 => k_is)
    (case bc3 => k_is)
    (case tc3 => k_is)
    (case x3 => k_exc)
    (case hd9 => k_is)
    (case hd0 => k_is)
    (case ga0 => k_is)
    (case gt0 => k_is)
    (case gc0 => k_is)
    (case mo0 => k_is)
    (case kv0 => kit_is)
    (case ks0_9 => kit_is)
    (case es0_9 => k_is)
    (case ks0_0 => kit_is)
    (case es0_0 => k_is)
    (case ks0_1 => kit_is)
    (case es0_1 => k_is)
    (case ks0_2 => kit_is)
    (case es0_2 => k_is)
    (case ks0_3 => kit_is)
    (case es0_3 => k_is)
    (case hd1 => k_is)
    (case ga1 => k_is)
    (case gt1 => k_is)
    (case gc1 => k_is)
    (case mo1 => k_is)
    (case kv1 => kit_is)
    (case ks1_9 => kit_is)
    (case es1_9 => k_is)
    (case ks1_0 => kit_is)
    (case es1_0 => k_is)
    (case ks1_1 => kit_is)
    (case es1_1 => k_is)
    (case ks1_2 => kit_is)
    (case es1_2 => k_is)
    (case ks1_3 => kit_is)
    (case es1_3 => k_is)
    (case hd2 => k_is)
    (case ga2 => k_is)
    (case gt2 => k_is)
    (case gc2 => k_is)
    (case mo2 => k_is)
    (case kv2 => kit_is)
    (case ks2_9 => kit_is)
    (case es2_9 => k_is)
    (case ks2_0 => kit_is)
    (case es2_0 => k_is)
    (case ks2_1 => kit_is)
    (case es2_1 => k_is)
    (case ks2_2 => kit_is)
    (case es2_2 => k_is)
    (case ks2_3 => kit_is)
    (case es2_3 => k_is)
    (case hd3 => k_is)
    (case ga3 => k_is)
    (case gt3 => k_is)
    (case gc3 => k_is)
    (case mo3 => k_is)
    (case kv3 => kit_is)
    (case ks3_9 => kit_is)
    (case es3_9 => k_is)
    (case ks3_0 => kit_is)
    (case es3_0 => k_is)
    (case ks3_1 => kit_is)
    (case es3_1 => k_is)
    (case ks3_2 => kit_is)
    (case es3_2 => k_is)
    (case ks3_3 => kit_is)
    (case es3_3 => k_is)
    (case og => k_is)
    (case ot => k_is)
    (case u0 => k_is)
    (case u1 => k_is)
    (case u2 => k_is)
    (case z0 => k_is)
    (case z1 => k_is)
    (case z2 => k_is)
    (case z3 => k_is)
    (case z4 => k_is)
    (case z5 => k_is)
    (case z6 => k_is)
    (case z7 => k_is)
    (case z8 => k_is)

