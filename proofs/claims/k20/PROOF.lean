import PyProof.Rows.All
import Wide.All
import OpenK.AllK
import Wide.FinOn
import HandS.ForMost
import HandS.Style
import HandS.TupMul
import HandS.SortInts
import KE.SortData
import HandS.Deep
import HandS.WordsDict
import HandS.Walk
import KE.KDictKeyed
import HandS.Small
import KE.KDictCopyH
import PyProof.ReprRoads
import HandS.Ends
import PyProof.ReprLen
import PyProof.FitsInt
import HandS.TupAny
import HandS.Conv
import HandS.DictComp
import HandS.IsInst
import HandS.Zip
import HandS.Star
import PyProof.EnumMake
import PyProof.Draws
import PyProof.TupleIter
import KE.GoesMore
import HandS.Comp
import PySem.Challenge.RW_placesdefended_k20_claw_papers_judged
set_option Elab.async false
set_option linter.all false
set_option maxRecDepth 100000
set_option maxHeartbeats 1000000
/-! EV, part A: plain data D, what represents it in the abstract heap (Rep), worlds, environments, the state monad M, the judgements. -/
namespace L2.EV
open PySem PySem.Spec PyProof.Rows

inductive DKey where
  | k (x : Key) | t (ks : List Key)
  deriving DecidableEq
inductive D where
  | non | bl (b : Bool) | int (i : Int) | str (x : Str) | tup (xs : List D) | lst (xs : List D) | dct (t : Bool) (kvs : List (DKey × D)) | src | ptp (xs : List D)

/-! ### representation: N the places that must not be met (but by tuples), sa the source's place -/
mutual
inductive Rep (N : Addr → Prop) (sa : Addr) (H : Hp) : V → D → Prop
  | non : Rep N sa H .non .non
  | bl (b : Bool) : Rep N sa H (.bl b) (.bl b)
  | int (i : Int) : Rep N sa H (.int i) (.int i)
  | str (x : Str) : Rep N sa H (.str x) (.str x)
  | src : Rep N sa H (.ref sa) .src
  | tup {a : Addr} {vs : List V} {ds : List D} : H a = some (.tup vs) → vs.length ≤ sizeLine → RepAll N sa H vs ds → Rep N sa H (.ref a) (.tup ds)
  | lst {a : Addr} {vs : List V} {ds : List D} : H a = some (.lst vs) → ¬ N a → vs.length ≤ sizeLine → RepAll N sa H vs ds → Rep N sa H (.ref a) (.lst ds)
  | ptp {a : Addr} {o : Obj} {vs : List V} {ds : List D} : H a = some (.frz o (.tup vs)) → o.dict = none → ¬ N a → vs.length ≤ sizeLine → RepAll N sa H vs ds → Rep N sa H (.ref a) (.ptp ds)
  | dK {a : Addr} {kvs : List (Key × V)} {kds : List (DKey × D)} : Rd H a (.dK kvs) → ¬ N a → kvs.length ≤ sizeLine → RepK N sa H kvs kds → Rep N sa H (.ref a) (.dct false kds)
  | dT {a : Addr} {kvs : List (List Key × V)} {kds : List (DKey × D)} : Rd H a (.dT kvs) → ¬ N a → kvs.length ≤ sizeLine → RepT N sa H kvs kds → Rep N sa H (.ref a) (.dct true kds)
inductive RepAll (N : Addr → Prop) (sa : Addr) (H : Hp) : List V → List D → Prop
  | nil : RepAll N sa H [] []
  | cons {v : V} {d : D} {vs : List V} {ds : List D} : Rep N sa H v d → RepAll N sa H vs ds → RepAll N sa H (v :: vs) (d :: ds)
inductive RepK (N : Addr → Prop) (sa : Addr) (H : Hp) : List (Key × V) → List (DKey × D) → Prop
  | nil : RepK N sa H [] []
  | cons {k : Key} {v : V} {d : D} {kvs : List (Key × V)} {kds : List (DKey × D)} : Rep N sa H v d → RepK N sa H kvs kds → RepK N sa H ((k, v) :: kvs) ((.k k, d) :: kds)
inductive RepT (N : Addr → Prop) (sa : Addr) (H : Hp) : List (List Key × V) → List (DKey × D) → Prop
  | nil : RepT N sa H [] []
  | cons {k : List Key} {v : V} {d : D} {kvs : List (List Key × V)} {kds : List (DKey × D)} : Rep N sa H v d → RepT N sa H kvs kds → RepT N sa H ((k, v) :: kvs) ((.t k, d) :: kds)
end

theorem rd_keep {H H' : Hp} {a : Addr} {u : HO} (f : ∀ o, H a = some o → H' a = some o) (h : Rd H a u) : Rd H' a u := h.elim (fun e => .inl (f _ e)) fun ⟨o, e⟩ => .inr ⟨o, f _ e⟩
theorem rd_ne0 {H : Hp} {a : Addr} {u : HO} (h : Rd H a u) : H a ≠ none := fun z => by
  rcases h with h | ⟨o, h⟩ <;> (rw [z] at h; cases h)
theorem rd_exact {H : Hp} {a : Addr} {u : HO} (m : Mut (H a)) (h : Rd H a u) : H a = some u := by
  rcases h with h | ⟨o, h⟩
  · exact h
  · rw [h] at m; exact m.elim
theorem rd_imp {N N' : Addr → Prop} {H H' : Hp} (hl : ∀ a o, ¬ N a → H a = some o → H' a = some o ∧ ¬ N' a) {a : Addr} {u : HO} (n : ¬ N a) (h : Rd H a u) : Rd H' a u ∧ ¬ N' a := by
  rcases h with h | ⟨o, h⟩
  · exact ⟨.inl (hl a _ n h).1, (hl a _ n h).2⟩
  · exact ⟨.inr ⟨o, (hl a _ n h).1⟩, (hl a _ n h).2⟩
section
variable {N N' : Addr → Prop} {sa : Addr} {H H' : Hp}
mutual
theorem Rep.imp (ht : ∀ a vs, H a = some (.tup vs) → H' a = some (.tup vs)) (hl : ∀ a o, ¬ N a → H a = some o → H' a = some o ∧ ¬ N' a) : ∀ {v : V} {d : D}, Rep N sa H v d → Rep N' sa H' v d
  | _, _, .non => .non
  | _, _, .bl b => .bl b
  | _, _, .int i => .int i
  | _, _, .str x => .str x
  | _, _, .src => .src
  | _, _, .tup h z r => .tup (ht _ _ h) z (RepAll.imp ht hl r)
  | _, _, .lst h n z r => .lst (hl _ _ n h).1 (hl _ _ n h).2 z (RepAll.imp ht hl r)
  | _, _, .ptp h hd n z r => .ptp (hl _ _ n h).1 hd (hl _ _ n h).2 z (RepAll.imp ht hl r)
  | _, _, .dK h n z r => .dK (rd_imp hl n h).1 (rd_imp hl n h).2 z (RepK.imp ht hl r)
  | _, _, .dT h n z r => .dT (rd_imp hl n h).1 (rd_imp hl n h).2 z (RepT.imp ht hl r)
theorem RepAll.imp (ht : ∀ a vs, H a = some (.tup vs) → H' a = some (.tup vs)) (hl : ∀ a o, ¬ N a → H a = some o → H' a = some o ∧ ¬ N' a) : ∀ {vs : List V} {ds : List D}, RepAll N sa H vs ds → RepAll N' sa H' vs ds
  | _, _, .nil => .nil
  | _, _, .cons r t => .cons (Rep.imp ht hl r) (RepAll.imp ht hl t)
theorem RepK.imp (ht : ∀ a vs, H a = some (.tup vs) → H' a = some (.tup vs)) (hl : ∀ a o, ¬ N a → H a = some o → H' a = some o ∧ ¬ N' a) : ∀ {kvs : List (Key × V)} {kds : List (DKey × D)}, RepK N sa H kvs kds → RepK N' sa H' kvs kds
  | _, _, .nil => .nil
  | _, _, .cons r t => .cons (Rep.imp ht hl r) (RepK.imp ht hl t)
theorem RepT.imp (ht : ∀ a vs, H a = some (.tup vs) → H' a = some (.tup vs)) (hl : ∀ a o, ¬ N a → H a = some o → H' a = some o ∧ ¬ N' a) : ∀ {kvs : List (List Key × V)} {kds : List (DKey × D)}, RepT N sa H kvs kds → RepT N' sa H' kvs kds
  | _, _, .nil => .nil
  | _, _, .cons r t => .cons (Rep.imp ht hl r) (RepT.imp ht hl t)
end
theorem RepAll.length : ∀ {vs : List V} {ds : List D}, RepAll N sa H vs ds → vs.length = ds.length
  | _, _, .nil => rfl
  | _, _, .cons _ t => by simp [RepAll.length t]
theorem RepAll.get : ∀ {vs : List V} {ds : List D} {i : Nat} {d : D}, RepAll N sa H vs ds → ds[i]? = some d → ∃ v, vs[i]? = some v ∧ Rep N sa H v d
  | _, _, _, _, .nil, h => by simp at h
  | _, _, 0, _, .cons r _, h => by simp at h; subst h; exact ⟨_, rfl, r⟩
  | _, _, i + 1, d, .cons _ t, h => by simpa using RepAll.get (i := i) (d := d) t (by simpa using h)
theorem RepAll.getV : ∀ {vs : List V} {ds : List D} {i : Nat} {v : V}, RepAll N sa H vs ds → vs[i]? = some v → ∃ d, ds[i]? = some d ∧ Rep N sa H v d
  | _, _, _, _, .nil, h => by simp at h
  | _, _, 0, _, .cons r _, h => by simp at h; subst h; exact ⟨_, rfl, r⟩
  | _, _, i + 1, d, .cons _ t, h => by simpa using RepAll.getV (i := i) (v := d) t (by simpa using h)
theorem RepAll.append : ∀ {vs ws : List V} {ds es : List D}, RepAll N sa H vs ds → RepAll N sa H ws es → RepAll N sa H (vs ++ ws) (ds ++ es)
  | _, _, _, _, .nil, s => s
  | _, _, _, _, .cons r t, s => .cons r (RepAll.append t s)
theorem RepAll.take : ∀ {vs : List V} {ds : List D} (n : Nat), RepAll N sa H vs ds → RepAll N sa H (vs.take n) (ds.take n)
  | _, _, 0, _ => .nil
  | _, _, _ + 1, .nil => .nil
  | _, _, n + 1, .cons r t => .cons r (RepAll.take n t)
theorem RepAll.drop : ∀ {vs : List V} {ds : List D} (n : Nat), RepAll N sa H vs ds → RepAll N sa H (vs.drop n) (ds.drop n)
  | _, _, 0, r => r
  | _, _, _ + 1, .nil => .nil
  | _, _, n + 1, .cons _ t => RepAll.drop n t
theorem RepAll.set {v : V} {d : D} (r : Rep N sa H v d) : ∀ {vs : List V} {ds : List D} (n : Nat), RepAll N sa H vs ds → RepAll N sa H (vs.set n v) (ds.set n d)
  | _, _, _, .nil => .nil
  | _, _, 0, .cons _ t => .cons r t
  | _, _, n + 1, .cons q t => .cons q (RepAll.set r n t)
theorem RepAll.dropLast {vs : List V} {ds : List D} (r : RepAll N sa H vs ds) : RepAll N sa H vs.dropLast ds.dropLast := by
  rw [List.dropLast_eq_take, List.dropLast_eq_take, r.length]
  exact r.take _
theorem RepAll.reverse : ∀ {vs : List V} {ds : List D}, RepAll N sa H vs ds → RepAll N sa H vs.reverse ds.reverse
  | _, _, .nil => .nil
  | _, _, .cons r t => by
    rw [List.reverse_cons, List.reverse_cons]
    exact (RepAll.reverse t).append (.cons r .nil)
theorem RepAll.of : ∀ {vs : List V} {ds : List D}, vs.length = ds.length → (∀ (i : Nat) (v : V) (d : D), vs[i]? = some v → ds[i]? = some d → Rep N sa H v d) → RepAll N sa H vs ds
  | [], [], _, _ => .nil
  | v :: vs, d :: ds, h, f => .cons (f 0 v d rfl rfl) (RepAll.of (by simpa using h) fun i v' d' h1 h2 => f (i + 1) v' d' (by simpa using h1) (by simpa using h2))
  | [], _ :: _, h, _ => by simp at h
  | _ :: _, [], h, _ => by simp at h
theorem RepK.length : ∀ {kvs : List (Key × V)} {kds : List (DKey × D)}, RepK N sa H kvs kds → kvs.length = kds.length
  | _, _, .nil => rfl
  | _, _, .cons _ t => by simp [RepK.length t]
theorem RepT.length : ∀ {kvs : List (List Key × V)} {kds : List (DKey × D)}, RepT N sa H kvs kds → kvs.length = kds.length
  | _, _, .nil => rfl
  | _, _, .cons _ t => by simp [RepT.length t]
end

/-! ### worlds -/
/-- C: what the callers own; L: what is owned here; the source's dict and its list of cells -/
structure Wd where
  C : Addr → Prop
  L : Addr → Prop
  sa : Addr
  ca : Addr
def Wd.no (W : Wd) (a : Addr) : Prop := W.C a ∨ W.L a ∨ a = W.sa ∨ a = W.ca

structure Src where
  cells : List Int
  left : Int
  mixed : Int
  turn : Int
def srcK (ca : Addr) (S : Src) : List (Key × V) := [(.inr (Str.ofString "cells"), .ref ca), (.inr (Str.ofString "left"), .int S.left), (.inr (Str.ofString "mixed"), .int S.mixed), (.inr (Str.ofString "turn"), .int S.turn)]

/-- a thing that may be written, or is locked -/
def MutF : Option HO → Prop
  | some (.frz _ _) => True
  | o => Mut o
theorem Mut.f : ∀ {o : Option HO}, Mut o → MutF o
  | some (.frz _ _), _ => trivial
  | some (.lst _), h => h
  | some (.tup _), h => h
  | some (.dK _), h => h
  | some (.dT _), h => h
  | some (.set _ _), h => h
  | some (.ins _ _ _), h => h
  | some (.own _), h => h
  | some (.xd _), h => h
  | some (.rng _ _), h => h
  | some (.tbl _), h => h
  | some (.met _ _), h => h
  | some (.ext _), h => h
  | none, h => h
structure WRel (W : Wd) (H : Hp) (S : Src) : Prop where
  hs : H W.sa = some (.dK (srcK W.ca S))
  hc : H W.ca = some (.lst (S.cells.map V.int))
  mu : ∀ a, W.C a ∨ W.L a → MutF (H a)
  ne : ∀ a, W.C a ∨ W.L a → a ≠ W.sa ∧ a ≠ W.ca
  ap : ∀ a, W.L a → ¬ W.C a
  ml : ∀ a, W.L a → Mut (H a)

def Keep (W : Wd) (H H' : Hp) : Prop := ∀ a o, a ≠ W.sa → a ≠ W.ca → H a = some o → H' a = some o
theorem Keep.refl (W : Wd) (H : Hp) : Keep W H H := fun _ _ _ _ h => h
theorem Keep.trans {W : Wd} {H H1 H2 : Hp} (a : Keep W H H1) (b : Keep W H1 H2) : Keep W H H2 := fun c o h1 h2 h => b c o h1 h2 (a c o h1 h2 h)
theorem Keep.of_same {W : Wd} {H H' : Hp} (h : Same H H') : Keep W H H' := fun a o _ _ e => h a o e
theorem upd_keep {H : Hp} {p a : Addr} {o u : HO} (hp : H p = none) (h : H a = some u) : upd H p o a = some u := by
  rw [upd_ne (ne_of_none h hp)]; exact h
theorem keep_laid {W : Wd} {H : Hp} {p : Addr} {o : HO} (h : H p = none) : Keep W H (upd H p o) := fun _ _ _ _ e => upd_keep h e

section
variable {W : Wd} {H H' : Hp} {S S' : Src}
theorem WRel.tupne (w : WRel W H S) {a : Addr} {vs : List V} (h : H a = some (.tup vs)) : a ≠ W.sa ∧ a ≠ W.ca := by
  constructor
  · rintro rfl; rw [w.hs] at h; cases h
  · rintro rfl; rw [w.hc] at h; cases h
theorem WRel.laid (w : WRel W H S) {p : Addr} {o : HO} (h : H p = none) : WRel W (upd H p o) S where
  hs := upd_keep h w.hs
  hc := upd_keep h w.hc
  mu := fun a ha => by
    have m := w.mu a ha
    have : a ≠ p := by rintro rfl; rw [h] at m; exact m
    rw [upd_ne this]; exact m
  ne := w.ne
  ap := w.ap
  ml := fun a ha => by
    have m := w.ml a ha
    have : a ≠ p := by rintro rfl; rw [h] at m; exact m
    rw [upd_ne this]; exact m
theorem Rep.keep (w : WRel W H S) (k : Keep W H H') {v : V} {d : D} (r : Rep W.no W.sa H v d) : Rep W.no W.sa H' v d :=
  r.imp (fun a vs h => k a _ (w.tupne h).1 (w.tupne h).2 h) fun a o n h => ⟨k a o (fun e => n (.inr (.inr (.inl e)))) (fun e => n (.inr (.inr (.inr e)))) h, n⟩
theorem RepAll.keep (w : WRel W H S) (k : Keep W H H') {v : List V} {d : List D} (r : RepAll W.no W.sa H v d) : RepAll W.no W.sa H' v d :=
  r.imp (fun a vs h => k a _ (w.tupne h).1 (w.tupne h).2 h) fun a o n h => ⟨k a o (fun e => n (.inr (.inr (.inl e)))) (fun e => n (.inr (.inr (.inr e)))) h, n⟩
theorem RepK.keep (w : WRel W H S) (k : Keep W H H') {v : List (Key × V)} {d : List (DKey × D)} (r : RepK W.no W.sa H v d) : RepK W.no W.sa H' v d :=
  r.imp (fun a vs h => k a _ (w.tupne h).1 (w.tupne h).2 h) fun a o n h => ⟨k a o (fun e => n (.inr (.inr (.inl e)))) (fun e => n (.inr (.inr (.inr e)))) h, n⟩
theorem RepT.keep (w : WRel W H S) (k : Keep W H H') {v : List (List Key × V)} {d : List (DKey × D)} (r : RepT W.no W.sa H v d) : RepT W.no W.sa H' v d :=
  r.imp (fun a vs h => k a _ (w.tupne h).1 (w.tupne h).2 h) fun a o n h => ⟨k a o (fun e => n (.inr (.inr (.inl e)))) (fun e => n (.inr (.inr (.inr e)))) h, n⟩
end

/-- at a stands the top of d, its items are storable -/
def Top (W : Wd) (H : Hp) (a : Addr) : D → Prop
  | .lst ds => ∃ vs, H a = some (.lst vs) ∧ vs.length ≤ sizeLine ∧ RepAll W.no W.sa H vs ds
  | .dct false kds => ∃ kvs, Rd H a (.dK kvs) ∧ kvs.length ≤ sizeLine ∧ RepK W.no W.sa H kvs kds
  | .dct true kds => ∃ kvs, Rd H a (.dT kvs) ∧ kvs.length ≤ sizeLine ∧ RepT W.no W.sa H kvs kds
  | _ => False
/-- d may be read here, its items are storable -/
def RepI (W : Wd) (H : Hp) (v : V) (d : D) : Prop := Rep W.no W.sa H v d ∨ ∃ a, v = .ref a ∧ a ≠ W.sa ∧ a ≠ W.ca ∧ Top W H a d

section
variable {W : Wd} {H H' : Hp} {S S' : Src} {v : V} {d : D} {a : Addr}
theorem Top.keep (w : WRel W H S) (k : Keep W H H') (h1 : a ≠ W.sa) (h2 : a ≠ W.ca) (t : Top W H a d) : Top W H' a d := by
  cases d with
  | lst ds => obtain ⟨vs, h, z, r⟩ := t; exact ⟨vs, k a _ h1 h2 h, z, r.keep w k⟩
  | dct b kds =>
    cases b with
    | false => obtain ⟨vs, h, z, r⟩ := t; exact ⟨vs, rd_keep (fun o h => k a o h1 h2 h) h, z, r.keep w k⟩
    | true => obtain ⟨vs, h, z, r⟩ := t; exact ⟨vs, rd_keep (fun o h => k a o h1 h2 h) h, z, r.keep w k⟩
  | _ => exact t.elim
theorem RepI.keep (w : WRel W H S) (k : Keep W H H') (r : RepI W H v d) : RepI W H' v d := by
  rcases r with r | ⟨a, e, h1, h2, t⟩
  · exact .inl (r.keep w k)
  · exact .inr ⟨a, e, h1, h2, t.keep w k h1 h2⟩
theorem Rep.i (r : Rep W.no W.sa H v d) : RepI W H v d := .inl r
theorem no_ne {a : Addr} (n : ¬ W.no a) : a ≠ W.sa ∧ a ≠ W.ca := ⟨fun e => n (.inr (.inr (.inl e))), fun e => n (.inr (.inr (.inr e)))⟩
theorem RepI.lst {ds : List D} (r : RepI W H v (.lst ds)) : ∃ a vs, v = .ref a ∧ H a = some (.lst vs) ∧ vs.length ≤ sizeLine ∧ RepAll W.no W.sa H vs ds ∧ a ≠ W.sa ∧ a ≠ W.ca := by
  rcases r with r | ⟨a, e, h1, h2, vs, h, z, r⟩
  · cases r with
    | lst h n z r => exact ⟨_, _, rfl, h, z, r, (no_ne n).1, (no_ne n).2⟩
  · exact ⟨a, vs, e, h, z, r, h1, h2⟩
theorem RepI.dK {kds : List (DKey × D)} (r : RepI W H v (.dct false kds)) : ∃ a kvs, v = .ref a ∧ Rd H a (.dK kvs) ∧ kvs.length ≤ sizeLine ∧ RepK W.no W.sa H kvs kds ∧ a ≠ W.sa ∧ a ≠ W.ca := by
  rcases r with r | ⟨a, e, h1, h2, vs, h, z, r⟩
  · cases r with
    | dK h n z r => exact ⟨_, _, rfl, h, z, r, (no_ne n).1, (no_ne n).2⟩
  · exact ⟨a, vs, e, h, z, r, h1, h2⟩
theorem RepI.dT {kds : List (DKey × D)} (r : RepI W H v (.dct true kds)) : ∃ a kvs, v = .ref a ∧ Rd H a (.dT kvs) ∧ kvs.length ≤ sizeLine ∧ RepT W.no W.sa H kvs kds ∧ a ≠ W.sa ∧ a ≠ W.ca := by
  rcases r with r | ⟨a, e, h1, h2, vs, h, z, r⟩
  · cases r with
    | dT h n z r => exact ⟨_, _, rfl, h, z, r, (no_ne n).1, (no_ne n).2⟩
  · exact ⟨a, vs, e, h, z, r, h1, h2⟩
theorem RepI.tup {ds : List D} (r : RepI W H v (.tup ds)) : ∃ a vs, v = .ref a ∧ H a = some (.tup vs) ∧ vs.length ≤ sizeLine ∧ RepAll W.no W.sa H vs ds := by
  rcases r with r | ⟨a, e, h1, h2, t⟩
  · cases r with
    | tup h z r => exact ⟨_, _, rfl, h, z, r⟩
  · exact t.elim
theorem RepI.int {i : Int} (r : RepI W H v (.int i)) : v = .int i := by
  rcases r with r | ⟨a, e, h1, h2, t⟩
  · cases r; rfl
  · exact t.elim
theorem RepI.bl {b : Bool} (r : RepI W H v (.bl b)) : v = .bl b := by
  rcases r with r | ⟨a, e, h1, h2, t⟩
  · cases r; rfl
  · exact t.elim
theorem RepI.str {x : Str} (r : RepI W H v (.str x)) : v = .str x := by
  rcases r with r | ⟨a, e, h1, h2, t⟩
  · cases r; rfl
  · exact t.elim
theorem RepI.non (r : RepI W H v .non) : v = .non := by
  rcases r with r | ⟨a, e, h1, h2, t⟩
  · cases r; rfl
  · exact t.elim
end

/-- d is lent: it may be read here, and is not owned here -/
def RepB (W : Wd) (H : Hp) (v : V) (d : D) : Prop := Rep W.no W.sa H v d ∨ ∃ a, v = .ref a ∧ a ≠ W.sa ∧ a ≠ W.ca ∧ ¬ W.L a ∧ Top W H a d
theorem RepB.i {W : Wd} {H : Hp} {v : V} {d : D} (r : RepB W H v d) : RepI W H v d := r.elim .inl fun ⟨a, e, h1, h2, _, t⟩ => .inr ⟨a, e, h1, h2, t⟩
theorem RepB.keep {W : Wd} {H H' : Hp} {S : Src} {v : V} {d : D} (w : WRel W H S) (k : Keep W H H') (r : RepB W H v d) : RepB W H' v d := by
  rcases r with r | ⟨a, e, h1, h2, h3, t⟩
  · exact .inl (r.keep w k)
  · exact .inr ⟨a, e, h1, h2, h3, t.keep w k h1 h2⟩
theorem Top.ne0 {W : Wd} {H : Hp} {a : Addr} {d : D} (t : Top W H a d) : H a ≠ none := by
  intro e
  cases d with
  | lst ds => obtain ⟨vs, h, _⟩ := t; rw [e] at h; cases h
  | dct b kds =>
    cases b with
    | false => obtain ⟨vs, h, _⟩ := t; exact rd_ne0 h e
    | true => obtain ⟨vs, h, _⟩ := t; exact rd_ne0 h e
  | _ => exact t.elim

/-! ### the monad -/
def M (α : Type) := Src → Option (α × Src)
def M.ret {α : Type} (a : α) : M α := fun s => some (a, s)
def M.bnd {α β : Type} (m : M α) (f : α → M β) : M β := fun s => match m s with
  | none => none
  | some (a, s') => f a s'
instance : Monad M where
  pure := M.ret
  bind := M.bnd
instance : LawfulMonad M := LawfulMonad.mk' M
  (id_map := fun x => by funext s; show (match x s with | none => none | some (a, s') => some (a, s')) = x s; cases x s <;> rfl)
  (pure_bind := fun a f => rfl)
  (bind_assoc := fun x f g => by
    funext s
    show (match (match x s with | none => none | some (a, s') => f a s') with | none => none | some (a, s') => g a s') = (match x s with | none => none | some (a, s') => (match f a s' with | none => none | some (a, s') => g a s'))
    cases x s <;> rfl)
def M.fail {α : Type} : M α := fun _ => none
def M.of {α : Type} (o : Option α) : M α := fun s => o.map fun a => (a, s)
@[simp] theorem M.of_some {α : Type} (a : α) : M.of (some a) = pure a := rfl
@[simp] theorem M.of_none {α : Type} : (M.of none : M α) = M.fail := rfl
@[simp] theorem M.fail_bind {α β : Type} (f : α → M β) : (M.fail >>= f) = M.fail := rfl
theorem M.bind_eq {α β : Type} {m : M α} {f : α → M β} {s : Src} {b : β} {s' : Src} (h : (m >>= f) s = some (b, s')) : ∃ a s1, m s = some (a, s1) ∧ f a s1 = some (b, s') := by
  change (match m s with | none => none | some (a, s') => f a s') = some (b, s') at h
  cases e : m s with
  | none => rw [e] at h; cases h
  | some p => rw [e] at h; exact ⟨p.1, p.2, rfl, h⟩
theorem M.pure_eq {α : Type} {a b : α} {s s' : Src} (h : (pure a : M α) s = some (b, s')) : a = b ∧ s = s' := by
  cases (show some (a, s) = some (b, s') from h); exact ⟨rfl, rfl⟩
theorem M.of_eq {α : Type} {o : Option α} {b : α} {s s' : Src} (h : (M.of o) s = some (b, s')) : o = some b ∧ s = s' := by
  cases o with
  | none => cases (show (none : Option (α × Src)) = some (b, s') from h)
  | some a => obtain ⟨h1, h2⟩ := M.pure_eq (show (pure a : M α) s = _ from h); exact ⟨by rw [h1], h2⟩

/-! ### environments -/
inductive Cell where
  | s (d : D) | o (d : D) | b (d : D)
abbrev Ev := List (Option Cell)
def CellRel (W : Wd) (H : Hp) (v : V) : Cell → Prop
  | .s d => Rep W.no W.sa H v d
  | .b d => RepB W H v d
  | .o d => ∃ a, v = .ref a ∧ W.L a ∧ Top W H a d
structure EnvRel (W : Wd) (H : Hp) (σ : St) (ρ : Ev) : Prop where
  len : σ.length = ρ.length
  get : ∀ (i : Nat) (c : Cell), ρ[i]? = some (some c) → ∃ v, σ[i]? = some (some v) ∧ CellRel W H v c
  sep : ∀ (i j : Nat) (a : Addr) (d d' : D), ρ[i]? = some (some (.o d)) → ρ[j]? = some (some (.o d')) → σ[i]? = some (some (.ref a)) → σ[j]? = some (some (.ref a)) → i = j

section
variable {W : Wd} {H H' : Hp} {S S' : Src} {v : V} {d : D} {a : Addr} {σ : St} {ρ : Ev} {c : Cell}
theorem CellRel.keep (w : WRel W H S) (k : Keep W H H') (r : CellRel W H v c) : CellRel W H' v c := by
  cases c with
  | s d => exact Rep.keep w k r
  | b d => exact RepB.keep w k r
  | o d =>
    obtain ⟨a, e, l, t⟩ := r
    have n := w.ne a (.inr l)
    exact ⟨a, e, l, t.keep w k n.1 n.2⟩
theorem EnvRel.keep (e : EnvRel W H σ ρ) (w : WRel W H S) (k : Keep W H H') : EnvRel W H' σ ρ :=
  ⟨e.len, fun i c h => let ⟨v, h1, h2⟩ := e.get i c h; ⟨v, h1, h2.keep w k⟩, e.sep⟩
theorem CellRel.i (w : WRel W H S) (r : CellRel W H v c) : RepI W H v (match c with | .s d => d | .b d => d | .o d => d) := by
  cases c with
  | s d => exact .inl r
  | b d => exact RepB.i r
  | o d =>
    obtain ⟨a, e, l, t⟩ := r
    have n := w.ne a (.inr l)
    exact .inr ⟨a, e, n.1, n.2, t⟩
theorem EnvRel.set {i : Nat} (e : EnvRel W H σ ρ) (hi : i < ρ.length) (r : Rep W.no W.sa H v d) : EnvRel W H (σ.set i (some v)) (ρ.set i (some (.s d))) := by
  refine ⟨by simp [e.len], fun j c h => ?_, fun j k a d1 d2 h1 h2 h3 h4 => ?_⟩
  · by_cases hj : i = j
    · subst hj
      rw [List.getElem?_set_self hi] at h
      cases h
      exact ⟨v, by rw [List.getElem?_set_self (by rw [e.len]; exact hi)], r⟩
    · rw [List.getElem?_set_ne hj] at h
      obtain ⟨u, h1, h2⟩ := e.get j c h
      exact ⟨u, by rw [List.getElem?_set_ne hj]; exact h1, h2⟩
  · have nj : i ≠ j := by
      rintro rfl; rw [List.getElem?_set_self hi] at h1; cases h1
    have nk : i ≠ k := by
      rintro rfl; rw [List.getElem?_set_self hi] at h2; cases h2
    rw [List.getElem?_set_ne nj] at h1 h3
    rw [List.getElem?_set_ne nk] at h2 h4
    exact e.sep j k a d1 d2 h1 h2 h3 h4
theorem EnvRel.wipe1 {i : Nat} (e : EnvRel W H σ ρ) : EnvRel W H (σ.set i none) (ρ.set i none) := by
  refine ⟨by simp [e.len], fun j c h => ?_, fun j k a d1 d2 h1 h2 h3 h4 => ?_⟩
  · by_cases hj : i = j
    · subst hj
      rw [List.getElem?_set] at h
      simp at h
    · rw [List.getElem?_set_ne hj] at h
      obtain ⟨u, h1, h2⟩ := e.get j c h
      exact ⟨u, by rw [List.getElem?_set_ne hj]; exact h1, h2⟩
  · have nj : i ≠ j := by
      rintro rfl; rw [List.getElem?_set] at h1; simp at h1
    have nk : i ≠ k := by
      rintro rfl; rw [List.getElem?_set] at h2; simp at h2
    rw [List.getElem?_set_ne nj] at h1 h3
    rw [List.getElem?_set_ne nk] at h2 h4
    exact e.sep j k a d1 d2 h1 h2 h3 h4
end
end L2.EV

/-! EV, part B: the judgements and the rules for expressions. -/
namespace L2.EV
open PySem PySem.Spec PyProof.Rows

/-! ### the judgements -/
def TEv (t : TE) (f : Ev → M D) : Prop := ∀ (W : Wd) (σ : St) (H : Hp) (ρ : Ev) (S : Src) (d : D) (S' : Src) (Q : VK), WRel W H S → EnvRel W H σ ρ → f ρ S = some (d, S') →
  (∀ v H', Keep W H H' → WRel W H' S' → Rep W.no W.sa H' v d → Q v H') → t σ H Q
def TIv (t : TE) (f : Ev → M D) : Prop := ∀ (W : Wd) (σ : St) (H : Hp) (ρ : Ev) (S : Src) (d : D) (S' : Src) (Q : VK), WRel W H S → EnvRel W H σ ρ → f ρ S = some (d, S') →
  (∀ v H', Keep W H H' → WRel W H' S' → RepI W H' v d → Q v H') → t σ H Q
def TBv (t : TT) (f : Ev → M Bool) : Prop := ∀ (W : Wd) (σ : St) (H : Hp) (ρ : Ev) (S : Src) (b : Bool) (S' : Src) (Q : Bool → Hp → Prop), WRel W H S → EnvRel W H σ ρ → f ρ S = some (b, S') →
  (∀ H', Keep W H H' → WRel W H' S' → Q b H') → t σ H Q
inductive Args (W : Wd) (H : Hp) : List Bool → List V → List D → Prop
  | nil : Args W H [] [] []
  | s {ms : List Bool} {v : V} {d : D} {vs : List V} {ds : List D} : Rep W.no W.sa H v d → Args W H ms vs ds → Args W H (false :: ms) (v :: vs) (d :: ds)
  | b {ms : List Bool} {v : V} {d : D} {vs : List V} {ds : List D} : RepI W H v d → Args W H ms vs ds → Args W H (true :: ms) (v :: vs) (d :: ds)
def TAv (ms : List Bool) (t : TA) (f : Ev → M (List D)) : Prop := ∀ (W : Wd) (σ : St) (H : Hp) (ρ : Ev) (S : Src) (ds : List D) (S' : Src) (Q : List V → Hp → Prop), WRel W H S → EnvRel W H σ ρ → f ρ S = some (ds, S') →
  (∀ vs H', Keep W H H' → WRel W H' S' → Args W H' ms vs ds → Q vs H') → t σ H Q
/-- e gives f's value, storable -/
structure EE (X : Cx) (e : Expr) (f : Ev → M D) : Prop where ex : ∃ t, PE X e t ∧ TEv t f
/-- .. readable -/
structure EI (X : Cx) (e : Expr) (f : Ev → M D) : Prop where ex : ∃ t, PE X e t ∧ TIv t f
/-- a test -/
structure EB (X : Cx) (e : Expr) (f : Ev → M Bool) : Prop where ex : ∃ t, PT X e t ∧ TBv t f
/-- arguments -/
structure EA (X : Cx) (ms : List Bool) (es : List Expr) (f : Ev → M (List D)) : Prop where ex : ∃ t, PA X es t ∧ TAv ms t f

section
variable {W : Wd} {H H' : Hp} {S S' : Src}
theorem Args.keep (w : WRel W H S) (k : Keep W H H') {ms : List Bool} {vs : List V} {ds : List D} (a : Args W H ms vs ds) : Args W H' ms vs ds := by
  induction a with
  | nil => exact .nil
  | s r _ ih => exact .s (r.keep w k) ih
  | b r _ ih => exact .b (r.keep w k) ih
theorem Args.all {ms : List Bool} {vs : List V} {ds : List D} (a : Args W H ms vs ds) (h : ∀ m ∈ ms, m = false) : RepAll W.no W.sa H vs ds := by
  induction a with
  | nil => exact .nil
  | s r _ ih => exact .cons r (ih fun m hm => h m (List.mem_cons_of_mem _ hm))
  | b r _ ih => exact absurd (h true List.mem_cons_self) (by decide)
theorem Args.len {ms : List Bool} {vs : List V} {ds : List D} (a : Args W H ms vs ds) : vs.length = ms.length ∧ ds.length = ms.length := by
  induction a with
  | nil => exact ⟨rfl, rfl⟩
  | s _ _ ih => exact ⟨by simp [ih.1], by simp [ih.2]⟩
  | b _ _ ih => exact ⟨by simp [ih.1], by simp [ih.2]⟩
theorem Args.one {m : Bool} {vs : List V} {ds : List D} (a : Args W H [m] vs ds) : ∃ v d, vs = [v] ∧ ds = [d] ∧ RepI W H v d := by
  cases a with
  | s r t => cases t; exact ⟨_, _, rfl, rfl, .inl r⟩
  | b r t => cases t; exact ⟨_, _, rfl, rfl, r⟩
theorem Args.two {m n : Bool} {vs : List V} {ds : List D} (a : Args W H [m, n] vs ds) : ∃ v u d e, vs = [v, u] ∧ ds = [d, e] ∧ RepI W H v d ∧ RepI W H u e := by
  cases a with
  | s r t => obtain ⟨v, d, e1, e2, r2⟩ := t.one; subst e1; subst e2; exact ⟨_, _, _, _, rfl, rfl, .inl r, r2⟩
  | b r t => obtain ⟨v, d, e1, e2, r2⟩ := t.one; subst e1; subst e2; exact ⟨_, _, _, _, rfl, rfl, r, r2⟩
end

section
variable {X : Cx} {e a b c : Expr} {f g h' : Ev → M D} {pos : Pos}
theorem EE.i (h : EE X e f) : EI X e f := by
  obtain ⟨t, p, q⟩ := h.ex
  exact ⟨t, p, fun W σ H ρ S d S' Q w er hf k => q W σ H ρ S d S' Q w er hf fun v H' k1 w1 r => k v H' k1 w1 (.inl r)⟩

/-! ### names, constants -/
def eVar (i : Nat) : Ev → M D := fun ρ => M.of (match ρ[i]? with
  | some (some (.s d)) => some d
  | _ => none)
def eVarI (i : Nat) : Ev → M D := fun ρ => M.of (match ρ[i]? with
  | some (some (.s d)) => some d
  | some (some (.o d)) => some d
  | some (some (.b d)) => some d
  | _ => none)
theorem ee_var (i : Nat) {x : Str} (hN : X.N[i]? = some x := by rfl) (hv : Vis X.env.scope x := by first | exact Or.inl rfl | exact Or.inr (Or.inl rfl) | exact Or.inr (Or.inr rfl)) (hd : (x == ("__debug__" : Str)) = false := by decide)
    (hcd : (x == ("__classdict__" : Str)) = false := by decide) : EE X (.Name x pos) (eVar i) := by
  refine ⟨_, pe_var hN hv hd hcd, fun W σ H ρ S d S' Q w er hf k => ?_⟩
  obtain ⟨h1, rfl⟩ := M.of_eq hf
  cases q : ρ[i]? with
  | none => rw [q] at h1; cases h1
  | some o =>
    cases o with
    | none => rw [q] at h1; cases h1
    | some c =>
      cases c with
      | s d' =>
        rw [q] at h1
        cases h1
        obtain ⟨v, h2, h3⟩ := er.get i _ q
        exact ⟨v, h2, k v H (.refl _ _) w h3⟩
      | o _ => rw [q] at h1; cases h1
      | b _ => rw [q] at h1; cases h1
theorem ei_var (i : Nat) {x : Str} (hN : X.N[i]? = some x := by rfl) (hv : Vis X.env.scope x := by first | exact Or.inl rfl | exact Or.inr (Or.inl rfl) | exact Or.inr (Or.inr rfl)) (hd : (x == ("__debug__" : Str)) = false := by decide)
    (hcd : (x == ("__classdict__" : Str)) = false := by decide) : EI X (.Name x pos) (eVarI i) := by
  refine ⟨_, pe_var hN hv hd hcd, fun W σ H ρ S d S' Q w er hf k => ?_⟩
  obtain ⟨h1, rfl⟩ := M.of_eq hf
  cases q : ρ[i]? with
  | none => rw [q] at h1; cases h1
  | some o =>
    cases o with
    | none => rw [q] at h1; cases h1
    | some c =>
      obtain ⟨v, h2, h3⟩ := er.get i _ q
      have h4 := h3.i w
      rw [q] at h1
      cases c <;> (cases h1; exact ⟨v, h2, k v H (.refl _ _) w h4⟩)
def eC (d : D) : Ev → M D := fun _ => pure d
theorem ee_c {v : V} {d : D} (h : PE X e (tC v)) (r : ∀ N sa H, Rep N sa H v d) : EE X e (eC d) := by
  refine ⟨_, h, fun W σ H ρ S d S' Q w er hf k => ?_⟩
  obtain ⟨rfl, rfl⟩ := M.pure_eq hf
  exact k _ H (.refl _ _) w (r _ _ _)
theorem ee_int {i : Int} {j : Nat} : EE X (.Constant (.int i) j pos) (eC (.int i)) := ee_c pe_int fun _ _ _ => .int i
theorem ee_bl {i : Bool} {j : Nat} : EE X (.Constant (.bool i) j pos) (eC (.bl i)) := ee_c pe_bl fun _ _ _ => .bl i
theorem ee_non {j : Nat} : EE X (.Constant .none j pos) (eC .non) := ee_c pe_non fun _ _ _ => .non
theorem ee_str {x : Str} {j : Nat} : EE X (.Constant (.str x) j pos) (eC (.str x)) := ee_c pe_str fun _ _ _ => .str x

/-! ### operators -/
def OpV (r : R2) (h : D → D → Option D) : Prop := ∀ (W : Wd) (H : Hp) (S : Src) (v u : V) (x y d : D) (Q : VK), WRel W H S → RepI W H v x → RepI W H u y → h x y = some d →
  (∀ w' H', Keep W H H' → WRel W H' S → Rep W.no W.sa H' w' d → Q w' H') → r v u H Q
def eBin (h : D → D → Option D) (f g : Ev → M D) : Ev → M D := fun ρ => f ρ >>= fun x => g ρ >>= fun y => M.of (h x y)
theorem TEv.op {r : R2} {h : D → D → Option D} {ta tb : TE} (hv : OpV r h) (ha : TIv ta f) (hb : TIv tb g) : TEv (tOp r ta tb) (eBin h f g) := by
  intro W σ H ρ S d S' Q w er hf k
  obtain ⟨x, S1, h1, hf⟩ := M.bind_eq hf
  obtain ⟨y, S2, h2, hf⟩ := M.bind_eq hf
  obtain ⟨h3, rfl⟩ := M.of_eq hf
  refine ha W σ H ρ S x S1 _ w er h1 fun v H1 k1 w1 r1 => ?_
  refine hb W σ H1 ρ S1 y S2 _ w1 (er.keep w k1) h2 fun u H2 k2 w2 r2 => ?_
  exact hv W H2 S2 v u x y d Q w2 (r1.keep w1 k2) r2 h3 fun w' H' k3 w3 r3 => k w' H' ((k1.trans k2).trans k3) w3 r3
theorem ee_bin {op : Operator} {r : R2} {h : D → D → Option D} (ho : OpR X (binaryOp op) r) (hv : OpV r h) (ha : EI X a f) (hb : EI X b g) : EE X (.BinOp a op b pos) (eBin h f g) := by
  obtain ⟨ta, p1, q1⟩ := ha.ex
  obtain ⟨tb, p2, q2⟩ := hb.ex
  exact ⟨_, pe_op ho p1 p2, TEv.op hv q1 q2⟩
theorem ee_cmp {op : CmpOp} {r : R2} {h : D → D → Option D} (ho : OpR X (compareOp op) r) (hv : OpV r h) (ha : EI X a f) (hb : EI X b g) (hm : behindInMarks op b = false := by first | exact nomark _ | rfl) : EE X (.Compare a [op] [b] pos) (eBin h f g) := by
  obtain ⟨ta, p1, q1⟩ := ha.ex
  obtain ⟨tb, p2, q2⟩ := hb.ex
  exact ⟨_, pe_cmpR ho p1 p2 hm, TEv.op hv q1 q2⟩
def asB : D → M Bool := fun d => M.of (match d with
  | .bl b => some b
  | _ => none)
def bOf (f : Ev → M D) : Ev → M Bool := fun ρ => f ρ >>= asB
theorem asB_eq {d : D} {b : Bool} {S S' : Src} (h : asB d S = some (b, S')) : d = .bl b ∧ S = S' := by
  obtain ⟨h1, rfl⟩ := M.of_eq h
  cases d <;> first | (cases h1; exact ⟨rfl, rfl⟩) | cases h1
theorem TBv.of {t : TE} (h : TIv t f) : TBv (tTest t) (bOf f) := by
  intro W σ H ρ S b S' Q w er hf k
  obtain ⟨x, S1, h1, hf⟩ := M.bind_eq hf
  obtain ⟨rfl, rfl⟩ := asB_eq hf
  exact h W σ H ρ S _ S1 _ w er h1 fun v H1 k1 w1 r1 => ⟨b, r1.bl, k H1 k1 w1⟩
theorem TEv.i {t : TE} (h : TEv t f) : TIv t f := fun W σ H ρ S d S' Q w er hf k => h W σ H ρ S d S' Q w er hf fun v H' k1 w1 r => k v H' k1 w1 (.inl r)
theorem eb_cmp {op : CmpOp} {r : R2} {h : D → D → Option D} (ho : OpR X (compareOp op) r) (hv : OpV r h) (ha : EI X a f) (hb : EI X b g) (hm : behindInMarks op b = false := by first | exact nomark _ | rfl) : EB X (.Compare a [op] [b] pos) (bOf (eBin h f g)) := by
  obtain ⟨ta, p1, q1⟩ := ha.ex
  obtain ⟨tb, p2, q2⟩ := hb.ex
  exact ⟨_, pt_cmpR ho p1 p2 hm, TBv.of (TEv.op hv q1 q2).i⟩
/-- a value that is a bool, as a test -/
theorem eb_val (h : EI X e f) (he : ∀ whole, isTrue e X.env whole = (do let v ← whole; standAt e.pos; holding [v] (truthy v)) := by intro _; rfl) : EB X e (bOf f) := by
  obtain ⟨t, p, q⟩ := h.ex
  exact ⟨_, pt_val p he, TBv.of q⟩

/-! ### and, or, not -/
variable {fb gb : Ev → M Bool}
def bAnd (f g : Ev → M Bool) : Ev → M Bool := fun ρ => f ρ >>= fun b => if b = true then g ρ else pure false
def bOr (f g : Ev → M Bool) : Ev → M Bool := fun ρ => f ρ >>= fun b => if b = true then pure true else g ρ
def bNot (f : Ev → M Bool) : Ev → M Bool := fun ρ => f ρ >>= fun b => pure (!b)
structure EW (X : Cx) (e : Expr) (f : Ev → M Bool) : Prop where ex : ∃ t, PW X e t ∧ TBv t f
theorem EW.eb (h : EW X e fb) : EB X e fb := by
  obtain ⟨t, p, q⟩ := h.ex
  exact ⟨t, p.pt, q⟩
theorem TBv.and {t u : TT} (h1 : TBv t fb) (h2 : TBv u gb) : TBv (tAnd t u) (bAnd fb gb) := by
  intro W σ H ρ S b S' Q w er hf k
  obtain ⟨x, S1, e1, hf⟩ := M.bind_eq hf
  refine h1 W σ H ρ S x S1 _ w er e1 fun H1 k1 w1 => ?_
  cases x with
  | true =>
    rw [if_pos rfl] at hf ⊢
    exact h2 W σ H1 ρ S1 b S' _ w1 (er.keep w k1) hf fun H2 k2 w2 => k H2 (k1.trans k2) w2
  | false =>
    rw [if_neg Bool.false_ne_true] at hf ⊢
    obtain ⟨rfl, rfl⟩ := M.pure_eq hf
    exact k H1 k1 w1
theorem TBv.or {t u : TT} (h1 : TBv t fb) (h2 : TBv u gb) : TBv (tOr t u) (bOr fb gb) := by
  intro W σ H ρ S b S' Q w er hf k
  obtain ⟨x, S1, e1, hf⟩ := M.bind_eq hf
  refine h1 W σ H ρ S x S1 _ w er e1 fun H1 k1 w1 => ?_
  cases x with
  | false =>
    rw [if_neg Bool.false_ne_true] at hf ⊢
    exact h2 W σ H1 ρ S1 b S' _ w1 (er.keep w k1) hf fun H2 k2 w2 => k H2 (k1.trans k2) w2
  | true =>
    rw [if_pos rfl] at hf ⊢
    obtain ⟨rfl, rfl⟩ := M.pure_eq hf
    exact k H1 k1 w1
theorem ew_and1 (ha : EB X a fb) : EW X (.BoolOp .And [a] pos) fb := by
  obtain ⟨t, p, q⟩ := ha.ex; exact ⟨t, pw_and1 p, q⟩
theorem ew_or1 (ha : EB X a fb) : EW X (.BoolOp .Or [a] pos) fb := by
  obtain ⟨t, p, q⟩ := ha.ex; exact ⟨t, pw_or1 p, q⟩
theorem ew_and {rest : List Expr} (ha : EB X a fb) (hb : EW X (.BoolOp .And (b :: rest) pos) gb) : EW X (.BoolOp .And (a :: b :: rest) pos) (bAnd fb gb) := by
  obtain ⟨t, p, q⟩ := ha.ex
  obtain ⟨t2, p2, q2⟩ := hb.ex
  exact ⟨_, pw_and p p2, q.and q2⟩
theorem ew_or {rest : List Expr} (ha : EB X a fb) (hb : EW X (.BoolOp .Or (b :: rest) pos) gb) : EW X (.BoolOp .Or (a :: b :: rest) pos) (bOr fb gb) := by
  obtain ⟨t, p, q⟩ := ha.ex
  obtain ⟨t2, p2, q2⟩ := hb.ex
  exact ⟨_, pw_or p p2, q.or q2⟩
theorem eb_not (ha : EB X a fb) : EB X (.UnaryOp .Not a pos) (bNot fb) := by
  obtain ⟨t, p, q⟩ := ha.ex
  refine ⟨_, pt_not p, fun W σ H ρ S b S' Q w er hf k => ?_⟩
  obtain ⟨x, S1, e1, hf⟩ := M.bind_eq hf
  obtain ⟨rfl, rfl⟩ := M.pure_eq hf
  exact q W σ H ρ S x S1 _ w er e1 fun H1 k1 w1 => k H1 k1 w1
/-- as values, of bools -/
def eAnd (f g : Ev → M D) : Ev → M D := fun ρ => f ρ >>= asB >>= fun b => if b = true then g ρ else pure (.bl false)
def eOr (f g : Ev → M D) : Ev → M D := fun ρ => f ρ >>= asB >>= fun b => if b = true then pure (.bl true) else g ρ
def eNot (f : Ev → M D) : Ev → M D := fun ρ => f ρ >>= asB >>= fun b => pure (.bl (!b))
theorem ee_one {op : BoolOp} (ha : EE X a f) : EE X (.BoolOp op [a] pos) f := by
  obtain ⟨t, p, q⟩ := ha.ex; exact ⟨t, pe_one p, q⟩
theorem ee_and {rest : List Expr} (ha : EI X a f) (hb : EE X (.BoolOp .And (b :: rest) pos) g) : EE X (.BoolOp .And (a :: b :: rest) pos) (eAnd f g) := by
  obtain ⟨t, p, q⟩ := ha.ex
  obtain ⟨t2, p2, q2⟩ := hb.ex
  refine ⟨_, pe_and p p2, fun W σ H ρ S d S' Q w er hf k => ?_⟩
  obtain ⟨x, S1, e1, hf⟩ := M.bind_eq hf
  obtain ⟨y, S2, e2, e1⟩ := M.bind_eq e1
  obtain ⟨rfl, rfl⟩ := asB_eq e1
  refine q W σ H ρ S _ S2 _ w er e2 fun v H1 k1 w1 r1 => ⟨x, r1.bl, ?_⟩
  cases x with
  | true =>
    rw [if_pos rfl] at hf ⊢
    exact q2 W σ H1 ρ S2 d S' _ w1 (er.keep w k1) hf fun v2 H2 k2 w2 r2 => k v2 H2 (k1.trans k2) w2 r2
  | false =>
    rw [if_neg Bool.false_ne_true] at hf ⊢
    obtain ⟨rfl, rfl⟩ := M.pure_eq hf
    exact k _ H1 k1 w1 (.bl _)
theorem ee_or {rest : List Expr} (ha : EI X a f) (hb : EE X (.BoolOp .Or (b :: rest) pos) g) : EE X (.BoolOp .Or (a :: b :: rest) pos) (eOr f g) := by
  obtain ⟨t, p, q⟩ := ha.ex
  obtain ⟨t2, p2, q2⟩ := hb.ex
  refine ⟨_, pe_or p p2, fun W σ H ρ S d S' Q w er hf k => ?_⟩
  obtain ⟨x, S1, e1, hf⟩ := M.bind_eq hf
  obtain ⟨y, S2, e2, e1⟩ := M.bind_eq e1
  obtain ⟨rfl, rfl⟩ := asB_eq e1
  refine q W σ H ρ S _ S2 _ w er e2 fun v H1 k1 w1 r1 => ⟨x, r1.bl, ?_⟩
  cases x with
  | false =>
    rw [if_neg Bool.false_ne_true] at hf ⊢
    exact q2 W σ H1 ρ S2 d S' _ w1 (er.keep w k1) hf fun v2 H2 k2 w2 r2 => k v2 H2 (k1.trans k2) w2 r2
  | true =>
    rw [if_pos rfl] at hf ⊢
    obtain ⟨rfl, rfl⟩ := M.pure_eq hf
    exact k _ H1 k1 w1 (.bl _)
theorem ee_not (ha : EI X a f) : EE X (.UnaryOp .Not a pos) (eNot f) := by
  obtain ⟨t, p, q⟩ := ha.ex
  refine ⟨_, pe_not p, fun W σ H ρ S d S' Q w er hf k => ?_⟩
  obtain ⟨x, S1, e1, hf⟩ := M.bind_eq hf
  obtain ⟨y, S2, e2, e1⟩ := M.bind_eq e1
  obtain ⟨rfl, rfl⟩ := asB_eq e1
  obtain ⟨rfl, rfl⟩ := M.pure_eq hf
  exact q W σ H ρ S _ S2 _ w er e2 fun v H1 k1 w1 r1 => ⟨x, r1.bl, k _ H1 k1 w1 (.bl _)⟩
def eIf (c : Ev → M Bool) (f g : Ev → M D) : Ev → M D := fun ρ => c ρ >>= fun b => if b = true then f ρ else g ρ
theorem ee_if (hc : EB X c fb) (ha : EE X a f) (hb : EE X b g) : EE X (.IfExp c a b pos) (eIf fb f g) := by
  obtain ⟨tc, p0, q0⟩ := hc.ex
  obtain ⟨t, p, q⟩ := ha.ex
  obtain ⟨t2, p2, q2⟩ := hb.ex
  refine ⟨_, pe_ifExp p0 p p2, fun W σ H ρ S d S' Q w er hf k => ?_⟩
  obtain ⟨x, S1, e1, hf⟩ := M.bind_eq hf
  refine q0 W σ H ρ S x S1 _ w er e1 fun H1 k1 w1 => ?_
  cases x with
  | true =>
    rw [if_pos rfl] at hf ⊢
    exact q W σ H1 ρ S1 d S' _ w1 (er.keep w k1) hf fun v2 H2 k2 w2 r2 => k v2 H2 (k1.trans k2) w2 r2
  | false =>
    rw [if_neg Bool.false_ne_true] at hf ⊢
    exact q2 W σ H1 ρ S1 d S' _ w1 (er.keep w k1) hf fun v2 H2 k2 w2 r2 => k v2 H2 (k1.trans k2) w2 r2
/-! ### arguments, displays -/
def aNil : Ev → M (List D) := fun _ => pure []
def aCons (f : Ev → M D) (g : Ev → M (List D)) : Ev → M (List D) := fun ρ => f ρ >>= fun x => g ρ >>= fun xs => pure (x :: xs)
theorem ea_nil : EA X [] [] aNil := ⟨_, pa_nil, fun W σ H ρ S d S' Q w er hf k => by
  obtain ⟨rfl, rfl⟩ := M.pure_eq hf
  exact k _ H (.refl _ _) w .nil⟩
theorem ea_s {ms : List Bool} {es : List Expr} {gs : Ev → M (List D)} (ha : EE X a f) (hb : EA X ms es gs) (hs : starEach (a :: es) X.env = (false, eval a X.env) :: starEach es X.env := by rfl) : EA X (false :: ms) (a :: es) (aCons f gs) := by
  obtain ⟨t, p, q⟩ := ha.ex
  obtain ⟨t2, p2, q2⟩ := hb.ex
  refine ⟨_, pa_cons p p2 hs, fun W σ H ρ S d S' Q w er hf k => ?_⟩
  obtain ⟨x, S1, e1, hf⟩ := M.bind_eq hf
  obtain ⟨xs, S2, e2, hf⟩ := M.bind_eq hf
  obtain ⟨rfl, rfl⟩ := M.pure_eq hf
  refine q W σ H ρ S x S1 _ w er e1 fun v H1 k1 w1 r1 => ?_
  exact q2 W σ H1 ρ S1 xs S2 _ w1 (er.keep w k1) e2 fun vs H2 k2 w2 r2 => k _ H2 (k1.trans k2) w2 (.s (r1.keep w1 k2) r2)
theorem ea_b {ms : List Bool} {es : List Expr} {gs : Ev → M (List D)} (ha : EI X a f) (hb : EA X ms es gs) (hs : starEach (a :: es) X.env = (false, eval a X.env) :: starEach es X.env := by rfl) : EA X (true :: ms) (a :: es) (aCons f gs) := by
  obtain ⟨t, p, q⟩ := ha.ex
  obtain ⟨t2, p2, q2⟩ := hb.ex
  refine ⟨_, pa_cons p p2 hs, fun W σ H ρ S d S' Q w er hf k => ?_⟩
  obtain ⟨x, S1, e1, hf⟩ := M.bind_eq hf
  obtain ⟨xs, S2, e2, hf⟩ := M.bind_eq hf
  obtain ⟨rfl, rfl⟩ := M.pure_eq hf
  refine q W σ H ρ S x S1 _ w er e1 fun v H1 k1 w1 r1 => ?_
  exact q2 W σ H1 ρ S1 xs S2 _ w1 (er.keep w k1) e2 fun vs H2 k2 w2 r2 => k _ H2 (k1.trans k2) w2 (.b (r1.keep w1 k2) r2)
def eTup (f : Ev → M (List D)) : Ev → M D := fun ρ => f ρ >>= fun xs => pure (.tup xs)
def eLst (f : Ev → M (List D)) : Ev → M D := fun ρ => f ρ >>= fun xs => pure (.lst xs)
end

/-! ### new objects -/
section
variable {W : Wd} {H H' : Hp} {S S' : Src} {p : Addr}
theorem new_no (w : WRel W H S) (h : H p = none) : ¬ W.no p := by
  rintro (a | a | rfl | rfl)
  · have m := w.mu p (.inl a); rw [h] at m; exact m
  · have m := w.mu p (.inr a); rw [h] at m; exact m
  · rw [w.hs] at h; cases h
  · rw [w.hc] at h; cases h
theorem RepAll.laid (w : WRel W H S) {vs : List V} {ds : List D} {o : HO} (r : RepAll W.no W.sa H vs ds) (h : H p = none) : RepAll W.no W.sa (upd H p o) vs ds := r.keep w (keep_laid h)
theorem rep_newL (w : WRel W H S) {vs : List V} {ds : List D} (r : RepAll W.no W.sa H vs ds) (z : vs.length ≤ sizeLine) (h : H p = none) : Rep W.no W.sa (upd H p (.lst vs)) (.ref p) (.lst ds) :=
  .lst upd_same (new_no w h) z (r.laid w h)
theorem rep_newT (w : WRel W H S) {vs : List V} {ds : List D} (r : RepAll W.no W.sa H vs ds) (z : vs.length ≤ sizeLine) (h : H p = none) : Rep W.no W.sa (upd H p (.tup vs)) (.ref p) (.tup ds) :=
  .tup upd_same z (r.laid w h)
end

section
variable {X : Cx} {pos : Pos}
theorem ee_tup {ms : List Bool} {es : List Expr} {k : Nat} {f : Ev → M (List D)} (h : EA X ms es f) (hm : ∀ m ∈ ms, m = false := by decide) (hz : ms.length ≤ sizeLine := by decide) : EE X (.Tuple es k pos) (eTup f) := by
  obtain ⟨t, p, q⟩ := h.ex
  refine ⟨_, pe_tup p, fun W σ H ρ S d S' Q w er hf k => ?_⟩
  obtain ⟨xs, S1, e1, hf⟩ := M.bind_eq hf
  obtain ⟨rfl, rfl⟩ := M.pure_eq hf
  refine q W σ H ρ S xs S1 _ w er e1 fun vs H1 k1 w1 r1 => ?_
  have z : vs.length ≤ sizeLine := by rw [r1.len.1]; exact hz
  exact ⟨z, fun p hp => k _ _ (k1.trans (keep_laid hp)) (w1.laid hp) (rep_newT w1 (r1.all hm) z hp)⟩
theorem ee_lst {ms : List Bool} {es : List Expr} {f : Ev → M (List D)} (h : EA X ms es f) (hm : ∀ m ∈ ms, m = false := by decide) (hz : ms.length ≤ sizeLine := by decide) : EE X (.List es pos) (eLst f) := by
  obtain ⟨t, p, q⟩ := h.ex
  refine ⟨_, pe_lst p, fun W σ H ρ S d S' Q w er hf k => ?_⟩
  obtain ⟨xs, S1, e1, hf⟩ := M.bind_eq hf
  obtain ⟨rfl, rfl⟩ := M.pure_eq hf
  refine q W σ H ρ S xs S1 _ w er e1 fun vs H1 k1 w1 r1 => ?_
  have z : vs.length ≤ sizeLine := by rw [r1.len.1]; exact hz
  exact ⟨z, fun p hp => k _ _ (k1.trans (keep_laid hp)) (w1.laid hp) (rep_newL w1 (r1.all hm) z hp)⟩
end

/-! ### data as PyData -/
mutual
def D.py : D → Option PyData
  | .non => some .none
  | .bl b => some (.bool b)
  | .int i => some (.int i)
  | .str x => some (.str x)
  | .tup xs => (pyAll xs).map .tuple
  | .lst xs => (pyAll xs).map .list
  | .dct _ _ => none
  | .src => none
  | .ptp _ => none
def pyAll : List D → Option (List PyData)
  | [] => some []
  | d :: ds => match D.py d, pyAll ds with
    | some p, some ps => some (p :: ps)
    | _, _ => none
end
section
variable {W : Wd} {H : Hp} {K : PySem.W.Frag} {N : Addr → Prop} {sa : Addr}
mutual
theorem Rep.dp : ∀ {v : V} {d : D} {p : PyData}, Rep N sa H v d → D.py d = some p → Dp K H v p
  | _, _, _, .non, e => by simp only [D.py, Option.some.injEq] at e; subst e; exact .non
  | _, _, _, .bl b, e => by simp only [D.py, Option.some.injEq] at e; subst e; exact .bl b
  | _, _, _, .int i, e => by simp only [D.py, Option.some.injEq] at e; subst e; exact .int i
  | _, _, _, .str x, e => by simp only [D.py, Option.some.injEq] at e; subst e; exact .str x
  | _, _, _, .src, e => by simp [D.py] at e
  | _, _, _, .tup (ds := ds) h z r, e => by
    simp only [D.py] at e
    cases q : pyAll ds with
    | none => rw [q] at e; cases e
    | some ps => rw [q] at e; cases e; exact .tup (.of h) (RepAll.dp r q)
  | _, _, _, .lst (ds := ds) h n z r, e => by
    simp only [D.py] at e
    cases q : pyAll ds with
    | none => rw [q] at e; cases e
    | some ps => rw [q] at e; cases e; exact .lst (.of h) (RepAll.dp r q)
  | _, _, _, .ptp _ _ _ _ _, e => by simp [D.py] at e
  | _, _, _, .dK _ _ _ _, e => by simp [D.py] at e
  | _, _, _, .dT _ _ _ _, e => by simp [D.py] at e
theorem RepAll.dp : ∀ {vs : List V} {ds : List D} {ps : List PyData}, RepAll N sa H vs ds → pyAll ds = some ps → DpAll K H vs ps
  | _, _, _, .nil, e => by simp only [pyAll, Option.some.injEq] at e; subst e; exact .nil
  | _, _, _, .cons (d := d) (ds := ds) r t, e => by
    simp only [pyAll] at e
    cases q : D.py d with
    | none => rw [q] at e; cases e
    | some p =>
      cases q2 : pyAll ds with
      | none => rw [q, q2] at e; cases e
      | some ps => rw [q, q2] at e; cases e; exact .cons (Rep.dp r q) (RepAll.dp t q2)
end
theorem RepI.dp {v : V} {d : D} {p : PyData} (r : RepI W H v d) (e : D.py d = some p) : Dp K H v p := by
  rcases r with r | ⟨a, rfl, _, _, t⟩
  · exact r.dp e
  · cases d with
    | lst ds =>
      obtain ⟨vs, h, z, r⟩ := t
      simp only [D.py] at e
      cases q : pyAll ds with
      | none => rw [q] at e; cases e
      | some ps => rw [q] at e; cases e; exact .lst (.of h) (r.dp q)
    | dct b kds => simp [D.py] at e
    | _ => exact t.elim
end

/-! ### == and != -/
def dEqv (x y : D) : Option Bool := match D.py x, D.py y with
  | some p, some q => if SeqAt.shaped p && SeqAt.shaped q then some (PyData.eqv p q) else none
  | _, _ => none
def dEq (x y : D) : Option D := (dEqv x y).map .bl
def dNe (x y : D) : Option D := (dEqv x y).map fun b => .bl (!b)
theorem dEqv_eq {x y : D} {b : Bool} (h : dEqv x y = some b) : ∃ p q, D.py x = some p ∧ D.py y = some q ∧ SeqAt.shaped p = true ∧ SeqAt.shaped q = true ∧ b = PyData.eqv p q := by
  unfold dEqv at h
  cases e1 : D.py x with
  | none => rw [e1] at h; cases h
  | some p =>
    cases e2 : D.py y with
    | none => rw [e1, e2] at h; cases h
    | some q =>
      rw [e1, e2] at h
      simp only at h
      split at h
      · rename_i c
        cases h
        rw [Bool.and_eq_true] at c
        exact ⟨p, q, rfl, rfl, c.1, c.2, rfl⟩
      · cases h
theorem opv_eq {K : PySem.W.Frag} : OpV (rEqD K) dEq := by
  intro W H S v u x y d Q w rx ry h k
  unfold dEq at h
  cases e : dEqv x y with
  | none => rw [e] at h; cases h
  | some b =>
    rw [e] at h; cases h
    obtain ⟨p, q, e1, e2, s1, s2, rfl⟩ := dEqv_eq e
    exact ⟨p, q, rx.dp e1, ry.dp e2, s1, s2, k _ H (.refl _ _) w (.bl _)⟩
theorem opv_ne {K : PySem.W.Frag} : OpV (rNeD K) dNe := by
  intro W H S v u x y d Q w rx ry h k
  unfold dNe at h
  cases e : dEqv x y with
  | none => rw [e] at h; cases h
  | some b =>
    rw [e] at h; cases h
    obtain ⟨p, q, e1, e2, s1, s2, rfl⟩ := dEqv_eq e
    exact ⟨p, q, rx.dp e1, ry.dp e2, s1, s2, k _ H (.refl _ _) w (.bl _)⟩

/-! ### ints -/
def dI (g : Int → Int → D) (x y : D) : Option D := match x, y with
  | .int i, .int j => some (g i j)
  | _, _ => none
theorem dI_eq {g : Int → Int → D} {x y d : D} (h : dI g x y = some d) : ∃ i j, x = .int i ∧ y = .int j ∧ d = g i j := by
  cases x <;> cases y <;> first | (cases h; exact ⟨_, _, rfl, rfl, rfl⟩) | cases h
theorem opv_int {g : Int → Int → V} {g' : Int → Int → D} (hg : ∀ N sa H i j, Rep N sa H (g i j) (g' i j)) : OpV (rI0 g) (dI g') := by
  intro W H S v u x y d Q w rx ry h k
  obtain ⟨i, j, rfl, rfl, rfl⟩ := dI_eq h
  exact ⟨i, j, rx.int, ry.int, k _ H (.refl _ _) w (hg _ _ _ _ _)⟩
abbrev dSub := dI fun i j => .int (i - j)
abbrev dLt := dI fun i j => .bl (decide (i < j))
abbrev dLe := dI fun i j => .bl (decide (i ≤ j))
abbrev dGt := dI fun i j => .bl (decide (j < i))
abbrev dGe := dI fun i j => .bl (decide (j ≤ i))
theorem opv_sub : OpV (rI0 fun i j => .int (i - j)) dSub := opv_int fun _ _ _ _ _ => .int _
theorem opv_lt : OpV (rI0 fun i j => .bl (decide (i < j))) dLt := opv_int fun _ _ _ _ _ => .bl _
theorem opv_le : OpV (rI0 fun i j => .bl (decide (i ≤ j))) dLe := opv_int fun _ _ _ _ _ => .bl _
theorem opv_gt : OpV (rI0 fun i j => .bl (decide (j < i))) dGt := opv_int fun _ _ _ _ _ => .bl _
theorem opv_ge : OpV (rI0 fun i j => .bl (decide (j ≤ i))) dGe := opv_int fun _ _ _ _ _ => .bl _
instance (i j : Int) : Decidable (CMul i j) := by unfold CMul; infer_instance
instance (i j : Int) : Decidable (CDiv i j) := by unfold CDiv; infer_instance
def dFdiv (x y : D) : Option D := match x, y with
  | .int i, .int j => if CDiv i j then some (.int (i / j)) else none
  | _, _ => none
def dMod (x y : D) : Option D := match x, y with
  | .int i, .int j => if 0 < j then some (.int (i % j)) else none
  | _, _ => none
theorem opv_fdiv : OpV (rI CDiv fun i j => .int (i / j)) dFdiv := by
  intro W H S v u x y d Q w rx ry h k
  unfold dFdiv at h
  split at h
  · rename_i i j
    split at h
    · rename_i c
      cases h
      exact ⟨i, j, rx.int, ry.int, c, k _ H (.refl _ _) w (.int _)⟩
    · cases h
  · cases h
theorem opv_mod : OpV (rI (fun _ j => 0 < j) fun i j => .int (i % j)) dMod := by
  intro W H S v u x y d Q w rx ry h k
  unfold dMod at h
  split at h
  · rename_i i j
    split at h
    · rename_i c
      cases h
      exact ⟨i, j, rx.int, ry.int, c, k _ H (.refl _ _) w (.int _)⟩
    · cases h
  · cases h

/-! ### + -/
theorem OpR.or {X : Cx} {f : Value → Value → Sem Value} {r r' : R2} (h : OpR X f r) (h' : OpR X f r') : OpR X f (fun x y H Q => r x y H Q ∨ r' x y H Q) := L2.OpR.or h h'
/-- () + t is t -/
def rCat0 : R2 := fun x y H Q => ∃ a b ys, x = .ref a ∧ y = .ref b ∧ H a = some (.tup []) ∧ H b = some (.tup ys) ∧ Q (.ref b) H
theorem op_cat0 {X : Cx} : OpR X (binaryOp .Add) rCat0 := by
  intro pins s σ H x y v u Q I rx ry h
  obtain ⟨a, b, ys, rfl, rfl, ha, hb, q⟩ := h
  cases rx
  cases ry
  obtain ⟨its, r1, p1, _⟩ := I.tuple (.of ha)
  obtain ⟨its2, r2, p2, _⟩ := I.tuple (.of hb)
  cases r1
  obtain ⟨⟨cls, dd, data, sl⟩, ho, hc, n, hd⟩ := id p1
  obtain ⟨⟨cls2, dd2, data2, sl2⟩, ho2, hc2, n2, hd2⟩ := id p2
  simp only at hc hd hc2 hd2
  subst hc hd hc2 hd2
  exact concat_meets ⟨_, ho, rfl⟩ ⟨_, ho2, rfl⟩ noFill_tuple_add seq_tuple_add PySem.F.slot_tuple_add PySem.F.entry_tuple_add (PySem.F.args_tuple_add_2 _ _)
      (tuple_addW0 a b _ _ n n2 dd dd2 sl sl2 (by simp)) ⟨ho, ho2, ⟨.ref b, H, I, rfl, q⟩⟩
def rAddAll (K : PySem.W.Frag) : R2 := fun x y H Q => rI0 (fun i j => .int (i + j)) x y H Q ∨ (rCat x y H Q ∨ (rCatT K x y H Q ∨ (rCat0 x y H Q ∨ (∃ i j, x = .str i ∧ y = .str j ∧ i.length + j.length ≤ sizeLine ∧ Q (.str (i ++ j)) H))))
theorem op_addAll {X : Cx} : OpR X (binaryOp .Add) (rAddAll X.K) := op_add.or (op_cat.or (op_catT.or (op_cat0.or op_add_str)))
def dAdd (x y : D) : Option D := match x, y with
  | .int i, .int j => some (.int (i + j))
  | .lst a, .lst b => if a.length + b.length ≤ sizeLine then some (.lst (a ++ b)) else none
  | .tup a, .tup b => if a.length + b.length ≤ sizeLine then some (.tup (a ++ b)) else none
  | .str a, .str b => if a.length + b.length ≤ sizeLine then some (.str (a ++ b)) else none
  | _, _ => none
theorem opv_add {K : PySem.W.Frag} : OpV (rAddAll K) dAdd := by
  intro W H S v u x y d Q w rx ry h k
  unfold dAdd at h
  split at h
  · cases h
    exact .inl ⟨_, _, rx.int, ry.int, k _ H (.refl _ _) w (.int _)⟩
  · split at h
    · rename_i a b c
      cases h
      obtain ⟨p, vs, rfl, h1, z1, r1, _⟩ := rx.lst
      obtain ⟨q, us, rfl, h2, z2, r2, _⟩ := ry.lst
      have z : vs.length + us.length ≤ sizeLine := by rw [r1.length, r2.length]; exact c
      exact .inr (.inl ⟨p, q, vs, us, rfl, rfl, h1, h2, z, fun n hn => k _ _ (keep_laid hn) (w.laid hn) (rep_newL w (r1.append r2) (by rw [List.length_append]; exact z) hn)⟩)
    · cases h
  · split at h
    · rename_i a b c
      cases h
      obtain ⟨p, vs, rfl, h1, z1, r1⟩ := rx.tup
      obtain ⟨q, us, rfl, h2, z2, r2⟩ := ry.tup
      have z : vs.length + us.length ≤ sizeLine := by rw [r1.length, r2.length]; exact c
      by_cases e : vs = []
      · subst e
        cases r1
        exact .inr (.inr (.inr (.inl ⟨p, q, us, rfl, rfl, h1, h2, k _ H (.refl _ _) w (.tup h2 z2 r2)⟩)))
      · refine .inr (.inr (.inl ⟨p, q, vs, us, rfl, rfl, .of h1, .of h2, e, z, fun e2 => ?_, fun _ n hn => ?_⟩))
        · subst e2
          cases r2
          rw [List.append_nil] at k
          exact k _ H (.refl _ _) w (.tup h1 z1 r1)
        · exact k _ _ (keep_laid hn) (w.laid hn) (rep_newT w (r1.append r2) (by rw [List.length_append]; exact z) hn)
    · cases h
  · split at h
    · rename_i a b c
      cases h
      exact .inr (.inr (.inr (.inr ⟨a, b, rx.str, ry.str, c, k _ H (.refl _ _) w (.str _)⟩)))
    · cases h
  · cases h

/-! ### * -/
def rMulAll : R2 := fun x y H Q => rI CMul (fun i j => .int (i * j)) x y H Q ∨ rRep x y H Q
theorem op_mulAll {X : Cx} : OpR X (binaryOp .Mult) rMulAll := op_mul.or op_rep
def dMul (x y : D) : Option D := match x, y with
  | .int i, .int j => if CMul i j then some (.int (i * j)) else none
  | .lst a, .int k => if -(2 ^ 63) ≤ k ∧ k < 2 ^ 63 ∧ a.length * k.toNat ≤ sizeLine then some (.lst (List.replicate k.toNat a).flatten) else none
  | _, _ => none
theorem opv_mul : OpV rMulAll dMul := by
  intro W H S v u x y d Q w rx ry h k
  unfold dMul at h
  split at h
  · rename_i i j
    split at h
    · rename_i c
      cases h
      exact .inl ⟨i, j, rx.int, ry.int, c, k _ H (.refl _ _) w (.int _)⟩
    · cases h
  · rename_i a n
    split at h
    · rename_i c
      cases h
      obtain ⟨p, vs, rfl, h1, z1, r1, _⟩ := rx.lst
      obtain ⟨c1, c2, c3⟩ := c
      have z : vs.length * n.toNat ≤ sizeLine := by rw [r1.length]; exact c3
      have rr : ∀ m : Nat, RepAll W.no W.sa H (List.replicate m vs).flatten (List.replicate m a).flatten := by
        intro m
        induction m with
        | zero => exact .nil
        | succ m ih =>
          rw [List.replicate_succ, List.replicate_succ, List.flatten_cons, List.flatten_cons]
          exact r1.append ih
      have zz : (List.replicate n.toNat vs).flatten.length ≤ sizeLine := by
        have e : (List.replicate n.toNat vs).flatten.length = n.toNat * vs.length := by simp
        rw [e, Nat.mul_comm]
        exact z
      exact .inr ⟨p, n, vs, rfl, ry.int, h1, c1, c2, z, fun q hq => k _ _ (keep_laid hq) (w.laid hq) (rep_newL w (rr _) zz hq)⟩
    · cases h
  · cases h
end L2.EV

/-! EV, part C: subscripts, in, is, calls of built-ins. -/
namespace L2.EV
open PySem PySem.Spec PyProof.Rows

/-! ### keys -/
def scKey : D → Option Key
  | .int i => some (.inl i)
  | .str x => some (.inr x)
  | _ => none
def scKeys : List D → Option (List Key)
  | [] => some []
  | d :: ds => match scKey d, scKeys ds with
    | some k, some ks => some (k :: ks)
    | _, _ => none
def dKey : D → Option DKey
  | .int i => some (.k (.inl i))
  | .str x => some (.k (.inr x))
  | .tup ds => (scKeys ds).map .t
  | _ => none
section
variable {N : Addr → Prop} {sa : Addr} {W : Wd} {H : Hp}
theorem scKey_rep {v : V} {d : D} {k : Key} (r : Rep N sa H v d) (h : scKey d = some k) : v = kV k := by
  cases r <;> simp only [scKey, Option.some.injEq, reduceCtorEq] at h <;> (subst h; rfl)
theorem scKeys_rep : ∀ {vs : List V} {ds : List D} {ks : List Key}, RepAll N sa H vs ds → scKeys ds = some ks → vs = ks.map kV
  | _, _, _, .nil, h => by simp only [scKeys, Option.some.injEq] at h; subst h; rfl
  | _, _, _, .cons (d := d) (ds := ds) r t, h => by
    simp only [scKeys] at h
    cases e1 : scKey d with
    | none => rw [e1] at h; cases h
    | some k =>
      cases e2 : scKeys ds with
      | none => rw [e1, e2] at h; cases h
      | some ks => rw [e1, e2] at h; cases h; rw [scKey_rep r e1, scKeys_rep t e2]; rfl
def lookD (kds : List (DKey × D)) (k : DKey) : Option D := (kds.find? fun p => decide (p.1 = k)).map (·.2)
theorem RepK.look (k : Key) : ∀ {kvs : List (Key × V)} {kds : List (DKey × D)}, RepK N sa H kvs kds → (lookD kds (.k k) = none ∧ valV kvs k = none) ∨ ∃ d v, lookD kds (.k k) = some d ∧ valV kvs k = some v ∧ Rep N sa H v d
  | _, _, .nil => .inl ⟨rfl, rfl⟩
  | _, _, .cons (k := j) (v := v) (d := d) (kvs := kvs) (kds := kds) r t => by
    by_cases e : j = k
    · subst e
      exact .inr ⟨d, v, by simp [lookD], by simp [valV], r⟩
    · have e' : ¬ (DKey.k j = DKey.k k) := fun z => e (DKey.k.inj z)
      have h1 : lookD ((DKey.k j, d) :: kds) (.k k) = lookD kds (.k k) := by simp [lookD, List.find?_cons, e']
      have h2 : valV ((j, v) :: kvs) k = valV kvs k := valV_neg e
      rw [h1, h2]
      exact RepK.look k t
theorem RepT.look (k : List Key) : ∀ {kvs : List (List Key × V)} {kds : List (DKey × D)}, RepT N sa H kvs kds → (lookD kds (.t k) = none ∧ valV kvs k = none) ∨ ∃ d v, lookD kds (.t k) = some d ∧ valV kvs k = some v ∧ Rep N sa H v d
  | _, _, .nil => .inl ⟨rfl, rfl⟩
  | _, _, .cons (k := j) (v := v) (d := d) (kvs := kvs) (kds := kds) r t => by
    by_cases e : j = k
    · subst e
      exact .inr ⟨d, v, by simp [lookD], by simp [valV], r⟩
    · have e' : ¬ (DKey.t j = DKey.t k) := fun z => e (DKey.t.inj z)
      have h1 : lookD ((DKey.t j, d) :: kds) (.t k) = lookD kds (.t k) := by simp [lookD, List.find?_cons, e']
      have h2 : valV ((j, v) :: kvs) k = valV kvs k := valV_neg e
      rw [h1, h2]
      exact RepT.look k t
theorem dget_k {H : Hp} {a : Addr} {kvs : List (Key × V)} {k : Key} (e : Rd H a (.dK kvs)) : DGet H a (kV k) (valV kvs k) := .inl ⟨kvs, k, e, rfl, rfl⟩
theorem dget_t {H : Hp} {a b : Addr} {kvs : List (List Key × V)} {k : List Key} (e : Rd H a (.dT kvs)) (eb : H b = some (.tup (k.map kV))) : DGet H a (.ref b) (valV kvs k) := .inr ⟨kvs, k, b, e, rfl, eb, rfl⟩
/-- what a dict gives for a key, as data and in the heap -/
def dLook (x y : D) : Option (Option D) := match x with
  | .dct false kds => match dKey y with
    | some (.k k) => some (lookD kds (.k k))
    | _ => none
  | .dct true kds => match dKey y with
    | some (.t k) => some (lookD kds (.t k))
    | _ => none
  | _ => none
theorem dLook_get {v u : V} {x y : D} {o : Option D} (rx : RepI W H v x) (ry : RepI W H u y) (h : dLook x y = some o) :
    ∃ a, v = .ref a ∧ ((o = none ∧ DGet H a u none) ∨ ∃ d w, o = some d ∧ DGet H a u (some w) ∧ Rep W.no W.sa H w d) := by
  cases x with
  | dct b kds =>
    cases b with
    | false =>
      simp only [dLook] at h
      cases e : dKey y with
      | none => rw [e] at h; cases h
      | some dk =>
        cases dk with
        | t _ => rw [e] at h; cases h
        | k k =>
          rw [e] at h; cases h
          obtain ⟨a, kvs, rfl, hH, z, r, n1, n2⟩ := rx.dK
          have eu : u = kV k := by
            cases y with
            | int i => simp only [dKey, Option.some.injEq, DKey.k.injEq] at e; subst e; rw [ry.int]; rfl
            | str s => simp only [dKey, Option.some.injEq, DKey.k.injEq] at e; subst e; rw [ry.str]; rfl
            | tup ds => simp only [dKey] at e; cases q : scKeys ds <;> rw [q] at e <;> cases e
            | _ => simp [dKey] at e
          subst eu
          refine ⟨a, rfl, ?_⟩
          rcases r.look k with ⟨h1, h2⟩ | ⟨d, w, h1, h2, h3⟩
          · exact .inl ⟨h1, by rw [← h2]; exact dget_k hH⟩
          · exact .inr ⟨d, w, h1, by rw [← h2]; exact dget_k hH, h3⟩
    | true =>
      simp only [dLook] at h
      cases e : dKey y with
      | none => rw [e] at h; cases h
      | some dk =>
        cases dk with
        | k _ => rw [e] at h; cases h
        | t k =>
          rw [e] at h; cases h
          obtain ⟨a, kvs, rfl, hH, z, r, n1, n2⟩ := rx.dT
          cases y with
          | int i => simp [dKey] at e
          | str s => simp [dKey] at e
          | tup ds =>
            simp only [dKey] at e
            cases q : scKeys ds with
            | none => rw [q] at e; cases e
            | some ks =>
              rw [q] at e
              cases e
              obtain ⟨b, vs, rfl, hb, zb, rb⟩ := ry.tup
              rw [scKeys_rep rb q] at hb
              refine ⟨a, rfl, ?_⟩
              rcases r.look k with ⟨h1, h2⟩ | ⟨d, w, h1, h2, h3⟩
              · exact .inl ⟨h1, by rw [← h2]; exact dget_t hH hb⟩
              · exact .inr ⟨d, w, h1, by rw [← h2]; exact dget_t hH hb, h3⟩
          | _ => simp [dKey] at e
  | _ => simp [dLook] at h
end

/-! ### subscripts -/
def rIxD : R2 := fun x y H Q => ∃ a v, x = .ref a ∧ DGet H a y (some v) ∧ Q v H
theorem ix_dict {X : Cx} (hu : X.A.units + 1 < cLine) : IxR X rIxD := by
  intro value slice pins s σ H x y v u Q I rx ry h hs
  obtain ⟨a, w, rfl, g, q⟩ := h
  obtain rfl : v = Value.ref a := rx
  have hT := dict_typeIs I g
  unfold subscriptTail
  refine wpAny_bind ?_
  rw [getitemInPython_of_ne hT.not_modules]
  refine wpAny_bind (wpAny_specialOf hT PySem.F.slot_dict_getitem.lookup ?_)
  have fin : wpAny (model X.prog X.w) X.A (subscripted slice false (.ref a) u) (fun r s₃ => wpAny (model X.prog X.w) X.A (letTemporaryGo value (.ref a) r >>= fun _ => pure r) (EP X pins σ Q) X.xe s₃) X.xe s := by
    rw [hs]
    exact wpAny_operating (d_getItem hu I g ry fun w' s3 I3 rw' => wpAny_bind (wpAny_letTemporaryGo (wpAny_pure ⟨w, H, I3, rw', q⟩)))
  first
    | exact wpAny_pure (wpAny_bind fin)
    | exact wpAny_bind (wpAny_pure (wpAny_bind fin))
    | exact wpAny_bind fin
def rIxAll (K : PySem.W.Frag) : R2 := fun x y H Q => rIx K x y H Q ∨ rIxD x y H Q
theorem ix_all {X : Cx} (hu : X.A.units + 1 < cLine) : IxR X (rIxAll X.K) := ix_seq.or (ix_dict hu)
def dIx (x y : D) : Option D := match x with
  | .lst ds => match y with
    | .int i => atI ds i
    | _ => none
  | .tup ds => match y with
    | .int i => atI ds i
    | _ => none
  | .dct _ _ => match dLook x y with
    | some (some d) => some d
    | _ => none
  | _ => none
theorem atI_rep {N : Addr → Prop} {sa : Addr} {H : Hp} {vs : List V} {ds : List D} {i : Int} {d : D} (r : RepAll N sa H vs ds) (h : atI ds i = some d) : ∃ v, atI vs i = some v ∧ Rep N sa H v d := by
  unfold atI at h ⊢
  rw [r.length]
  cases e : ixN ds.length i with
  | none => rw [e] at h; cases h
  | some j =>
    rw [e] at h
    exact r.get h
theorem opv_ix {K : PySem.W.Frag} : OpV (rIxAll K) dIx := by
  intro W H S v u x y d Q w rx ry h k
  cases x with
  | lst ds =>
    cases y with
    | int i =>
      obtain ⟨a, vs, rfl, hH, z, r, _⟩ := rx.lst
      obtain ⟨v', h1, h2⟩ := atI_rep r h
      exact .inl (.inl ⟨a, vs, i, v', rfl, ry.int, .of hH, h1, k _ H (.refl _ _) w h2⟩)
    | _ => cases h
  | tup ds =>
    cases y with
    | int i =>
      obtain ⟨a, vs, rfl, hH, z, r⟩ := rx.tup
      obtain ⟨v', h1, h2⟩ := atI_rep r h
      exact .inl (.inr (.inl ⟨a, vs, i, v', rfl, ry.int, .of hH, h1, k _ H (.refl _ _) w h2⟩))
    | _ => cases h
  | dct b kds =>
    simp only [dIx] at h
    cases e : dLook (.dct b kds) y with
    | none => rw [e] at h; cases h
    | some o =>
      rw [e] at h
      cases o with
      | none => cases h
      | some d' =>
        cases h
        obtain ⟨a, rfl, hh⟩ := dLook_get rx ry e
        rcases hh with ⟨h1, _⟩ | ⟨d2, w2, h1, g, r⟩
        · cases h1
        · cases h1
          exact .inr ⟨a, w2, rfl, g, k _ H (.refl _ _) w r⟩
  | _ => cases h
section
variable {X : Cx} {a b : Expr} {f g : Ev → M D} {pos : Pos}
theorem ee_ix (hu : X.A.units + 1 < cLine) (ha : EI X a f) (hb : EI X b g) (hs : PlainIx b := by intro _ _; rfl) : EE X (.Subscript a b pos) (eBin dIx f g) := by
  obtain ⟨ta, p1, q1⟩ := ha.ex
  obtain ⟨tb, p2, q2⟩ := hb.ex
  exact ⟨_, pe_ix (ix_all hu) p1 p2 hs, TEv.op opv_ix q1 q2⟩
end

/-! ### in, not in -/
/-- membership in a list or a tuple of data -/
def rInSq (K : PySem.W.Frag) (neg : Bool) : R2 := fun x y H Q => ∃ d ds, Dp K H x d ∧ (Dp K H y (.list ds) ∨ Dp K H y (.tuple ds)) ∧ SeqAt.shaped d = true ∧ SeqAt.shaped (.list ds) = true ∧ Q (.bl (if neg then !(ds.any fun z => PyData.eqv z d) else ds.any fun z => PyData.eqv z d)) H
theorem op_inSq {X : Cx} (hu : X.A.units + 65 < cLine) : OpR X (compareOp .In) (rInSq X.K false) := by
  intro pins s σ H x y v u Q I rx ry h
  obtain ⟨d, ds, hd, he, sd, se, q⟩ := h
  obtain ⟨as, r1⟩ := Dp.reads I d x v hd rx
  rcases he with he | he
  · obtain ⟨bs, r2⟩ := Dp.reads I (.list ds) y u he ry
    exact SeqAt.in_list_reads r2 r1 (SeqAt.canLay_of_shaped se) (SeqAt.canLay_of_shaped sd) (room_in_shaped sd hu) ⟨.bl _, H, I, rfl, q⟩
  · obtain ⟨bs, r2⟩ := Dp.reads I (.tuple ds) y u he ry
    exact SeqAt.in_tuple_reads r2 r1 (SeqAt.canLay_of_shaped (d := .list ds) se) (SeqAt.canLay_of_shaped sd) (room_in_shaped sd hu) ⟨.bl _, H, I, rfl, q⟩
theorem op_notInSq {X : Cx} (hu : X.A.units + 65 < cLine) : OpR X (compareOp .NotIn) (rInSq X.K true) := by
  intro pins s σ H x y v u Q I rx ry h
  obtain ⟨d, ds, hd, he, sd, se, q⟩ := h
  obtain ⟨as, r1⟩ := Dp.reads I d x v hd rx
  rcases he with he | he
  · obtain ⟨bs, r2⟩ := Dp.reads I (.list ds) y u he ry
    exact SeqAt.notIn_list_reads r2 r1 (SeqAt.canLay_of_shaped se) (SeqAt.canLay_of_shaped sd) (room_in_shaped sd hu) ⟨.bl _, H, I, rfl, q⟩
  · obtain ⟨bs, r2⟩ := Dp.reads I (.tuple ds) y u he ry
    exact SeqAt.notIn_tuple_reads r2 r1 (SeqAt.canLay_of_shaped (d := .list ds) se) (SeqAt.canLay_of_shaped sd) (room_in_shaped sd hu) ⟨.bl _, H, I, rfl, q⟩
def rInD' (neg : Bool) : R2 := fun y x H Q => ∃ a o, x = .ref a ∧ DGet H a y o ∧ Q (.bl (if neg then !o.isSome else o.isSome)) H
theorem op_inDct {X : Cx} (hu : X.A.units + 1 < cLine) : OpR X (compareOp .In) (rInD' false) := by
  intro pins s σ H x y v u Q I rx ry h
  obtain ⟨a, o, rfl, g, q⟩ := h
  cases ry
  exact d_in hu I g rx fun s' I' => ⟨.bl o.isSome, H, I', rfl, q⟩
theorem op_notInDct {X : Cx} (hu : X.A.units + 1 < cLine) : OpR X (compareOp .NotIn) (rInD' true) := by
  intro pins s σ H x y v u Q I rx ry h
  obtain ⟨a, o, rfl, g, q⟩ := h
  cases ry
  exact d_notIn hu I g rx fun s' I' => ⟨.bl (!o.isSome), H, I', rfl, q⟩
def rInAll (K : PySem.W.Frag) (neg : Bool) : R2 := fun x y H Q => rInSq K neg x y H Q ∨ rInD' neg x y H Q
theorem op_inAll {X : Cx} (hu : X.A.units + 65 < cLine) : OpR X (compareOp .In) (rInAll X.K false) := (op_inSq hu).or (op_inDct (by omega))
theorem op_notInAll {X : Cx} (hu : X.A.units + 65 < cLine) : OpR X (compareOp .NotIn) (rInAll X.K true) := (op_notInSq hu).or (op_notInDct (by omega))
/-- x in ds, of data -/
def memD (x : D) (ds : List D) : Option Bool := match D.py x, pyAll ds with
  | some p, some ps => if SeqAt.shaped p && SeqAt.shaped (.list ps) then some (ps.any fun z => PyData.eqv z p) else none
  | _, _ => none
def dIn0 (x y : D) : Option Bool := match y with
  | .lst ds => memD x ds
  | .tup ds => memD x ds
  | .dct _ _ => (dLook y x).map (·.isSome)
  | _ => none
def dIn (x y : D) : Option D := (dIn0 x y).map .bl
def dNotIn (x y : D) : Option D := (dIn0 x y).map fun b => .bl (!b)
theorem memD_eq {x : D} {ds : List D} {b : Bool} (h : memD x ds = some b) : ∃ p ps, D.py x = some p ∧ pyAll ds = some ps ∧ SeqAt.shaped p = true ∧ SeqAt.shaped (.list ps) = true ∧ b = ps.any fun z => PyData.eqv z p := by
  unfold memD at h
  cases e1 : D.py x with
  | none => rw [e1] at h; cases h
  | some p =>
    cases e2 : pyAll ds with
    | none => rw [e1, e2] at h; cases h
    | some q =>
      rw [e1, e2] at h
      simp only at h
      split at h
      · rename_i c
        cases h
        rw [Bool.and_eq_true] at c
        exact ⟨p, q, rfl, rfl, c.1, c.2, rfl⟩
      · cases h
theorem opv_in0 {K : PySem.W.Frag} {W : Wd} {H : Hp} {S : Src} {v u : V} {x y : D} {b : Bool} {neg : Bool} {Q : VK} (w : WRel W H S) (rx : RepI W H v x) (ry : RepI W H u y) (h : dIn0 x y = some b) (k : Q (.bl (if neg then !b else b)) H) : rInAll K neg v u H Q := by
  cases y with
  | lst ds =>
    obtain ⟨p, ps, e1, e2, s1, s2, rfl⟩ := memD_eq h
    exact .inl ⟨p, ps, rx.dp e1, .inl (ry.dp (by simp only [D.py, e2]; rfl)), s1, s2, k⟩
  | tup ds =>
    obtain ⟨p, ps, e1, e2, s1, s2, rfl⟩ := memD_eq h
    exact .inl ⟨p, ps, rx.dp e1, .inr (ry.dp (by simp only [D.py, e2]; rfl)), s1, s2, k⟩
  | dct b' kds =>
    simp only [dIn0] at h
    cases e : dLook (.dct b' kds) x with
    | none => rw [e] at h; cases h
    | some o =>
      rw [e] at h; cases h
      obtain ⟨a, rfl, hh⟩ := dLook_get ry rx e
      rcases hh with ⟨rfl, g⟩ | ⟨d2, w2, rfl, g, r⟩
      · exact .inr ⟨a, none, rfl, g, k⟩
      · exact .inr ⟨a, some w2, rfl, g, k⟩
  | _ => cases h
theorem opv_in {K : PySem.W.Frag} : OpV (rInAll K false) dIn := by
  intro W H S v u x y d Q w rx ry h k
  unfold dIn at h
  cases e : dIn0 x y with
  | none => rw [e] at h; cases h
  | some b =>
    rw [e] at h; cases h
    exact opv_in0 w rx ry e (k _ H (.refl _ _) w (.bl _))
theorem opv_notIn {K : PySem.W.Frag} : OpV (rInAll K true) dNotIn := by
  intro W H S v u x y d Q w rx ry h k
  unfold dNotIn at h
  cases e : dIn0 x y with
  | none => rw [e] at h; cases h
  | some b =>
    rw [e] at h; cases h
    exact opv_in0 w rx ry e (k _ H (.refl _ _) w (.bl _))

/-! ### is, is not: None and bools -/
def isNon : D → Bool
  | .non => true
  | _ => false
theorem isNon_rep {W : Wd} {H : Hp} {v : V} {d : D} (r : RepI W H v d) : decide (v = .non) = isNon d := by
  rcases r with r | ⟨a, rfl, _, _, t⟩
  · cases r <;> simp [isNon]
  · cases d <;> first | exact t.elim | simp [isNon]
def rIsAll : R2 := fun x y H Q => (y = .non ∧ Q (.bl (decide (x = .non))) H) ∨ rIsB x y H Q
def rIsNotAll : R2 := fun x y H Q => (y = .non ∧ Q (.bl (!decide (x = .non))) H) ∨ rNotB x y H Q
theorem op_isAll {X : Cx} : OpR X (compareOp .Is) rIsAll := op_isN.or op_isBl
theorem op_isNotAll {X : Cx} : OpR X (compareOp .IsNot) rIsNotAll := op_notN.or op_notBl
def dIs0 (x y : D) : Option Bool := match y with
  | .non => some (isNon x)
  | .bl b => match x with
    | .bl a => some (decide (a = b))
    | _ => none
  | _ => none
def dIs (x y : D) : Option D := (dIs0 x y).map .bl
def dIsNot (x y : D) : Option D := (dIs0 x y).map fun b => .bl (!b)
theorem opv_is : OpV rIsAll dIs := by
  intro W H S v u x y d Q w rx ry h k
  unfold dIs at h
  cases y with
  | non =>
    cases h
    exact .inl ⟨ry.non, by rw [isNon_rep rx]; exact k _ H (.refl _ _) w (.bl _)⟩
  | bl b =>
    cases x with
    | bl a => cases h; exact .inr ⟨a, b, rx.bl, ry.bl, k _ H (.refl _ _) w (.bl _)⟩
    | _ => cases h
  | _ => cases h
theorem opv_isNot : OpV rIsNotAll dIsNot := by
  intro W H S v u x y d Q w rx ry h k
  unfold dIsNot at h
  cases y with
  | non =>
    cases h
    exact .inl ⟨ry.non, by rw [isNon_rep rx]; exact k _ H (.refl _ _) w (.bl _)⟩
  | bl b =>
    cases x with
    | bl a => cases h; exact .inr ⟨a, b, rx.bl, ry.bl, k _ H (.refl _ _) w (.bl _)⟩
    | _ => cases h
  | _ => cases h

/-! ### calls of built-ins -/
inductive AllI (W : Wd) (H : Hp) : List V → List D → Prop
  | nil : AllI W H [] []
  | cons {v : V} {d : D} {vs : List V} {ds : List D} : RepI W H v d → AllI W H vs ds → AllI W H (v :: vs) (d :: ds)
theorem Args.i {W : Wd} {H : Hp} {ms : List Bool} {vs : List V} {ds : List D} (a : Args W H ms vs ds) : AllI W H vs ds := by
  induction a with
  | nil => exact .nil
  | s r _ ih => exact .cons (.inl r) ih
  | b r _ ih => exact .cons r ih
def CallV (r : List V → Hp → VK → Prop) (h : List D → Option D) : Prop := ∀ (W : Wd) (H : Hp) (S : Src) (vs : List V) (ds : List D) (d : D) (Q : VK), WRel W H S → AllI W H vs ds → h ds = some d →
  (∀ w' H', Keep W H H' → WRel W H' S → Rep W.no W.sa H' w' d → Q w' H') → r vs H Q
def eCall (h : List D → Option D) (f : Ev → M (List D)) : Ev → M D := fun ρ => f ρ >>= fun ds => M.of (h ds)
theorem TEv.call {r : List V → Hp → VK → Prop} {h : List D → Option D} {ms : List Bool} {t : TA} {f : Ev → M (List D)} (hv : CallV r h) (ha : TAv ms t f) : TEv (tCB r t) (eCall h f) := by
  intro W σ H ρ S d S' Q w er hf k
  obtain ⟨ds, S1, h1, hf⟩ := M.bind_eq hf
  obtain ⟨h3, rfl⟩ := M.of_eq hf
  refine ha W σ H ρ S ds S1 _ w er h1 fun vs H1 k1 w1 r1 => ?_
  exact hv W H1 S1 vs ds d Q w1 r1.i h3 fun w' H' k3 w3 r3 => k w' H' (k1.trans k3) w3 r3
section
variable {X : Cx} {x : Str} {p pos : Pos} {e : Expr} {es : List Expr} {id T : String} {r : List V → Hp → VK → Prop} {h : List D → Option D} {ms : List Bool} {f : Ev → M (List D)}
theorem ee_callB (hc : CallR X (.builtin id) r) (hv : CallV r h) (hm : X.mg x = none) (hb : bootBuiltins x = some (.builtin id)) (ha : EA X ms (e :: es) f) (hg : Gl X x := by rfl) (hn : x ≠ "__name__" := by decide) (hdb : (x == ("__debug__" : Str)) = false := by decide)
    (he : starEach (e :: es) X.env = (false, eval e X.env) :: starEach es X.env := by rfl) (hpl : (backTo pos (starEach es X.env)).any (·.1) = false := by rfl) : EE X (.Call (.Name x p) (e :: es) [] pos) (eCall h f) := by
  obtain ⟨t, p1, q1⟩ := ha.ex
  exact ⟨_, pe_callB hc hg hm hb p1 hn hdb he hpl, TEv.call hv q1⟩
theorem ee_callTy (hc : CallR X (.type T) r) (hv : CallV r h) (hm : X.mg x = none) (hb : bootBuiltins x = some (.type T)) (ha : EA X ms (e :: es) f) (hg : Gl X x := by rfl) (hn : x ≠ "__name__" := by decide) (hdb : (x == ("__debug__" : Str)) = false := by decide)
    (he : starEach (e :: es) X.env = (false, eval e X.env) :: starEach es X.env := by rfl) (hpl : (backTo pos (starEach es X.env)).any (·.1) = false := by rfl) : EE X (.Call (.Name x p) (e :: es) [] pos) (eCall h f) := by
  obtain ⟨t, p1, q1⟩ := ha.ex
  exact ⟨_, pe_callTy hc hg hm hb p1 hn hdb he hpl, TEv.call hv q1⟩
end
theorem AllI.one {W : Wd} {H : Hp} {vs : List V} {d : D} (a : AllI W H vs [d]) : ∃ v, vs = [v] ∧ RepI W H v d := by
  cases a with
  | cons r t => cases t; exact ⟨_, rfl, r⟩
theorem AllI.two {W : Wd} {H : Hp} {vs : List V} {d e : D} (a : AllI W H vs [d, e]) : ∃ v u, vs = [v, u] ∧ RepI W H v d ∧ RepI W H u e := by
  cases a with
  | cons r t => obtain ⟨u, rfl, r2⟩ := t.one; exact ⟨_, _, rfl, r, r2⟩

/-- len -/
def rLenAll (K : PySem.W.Frag) : List V → Hp → VK → Prop := fun xs H Q => (∃ x n, xs = [x] ∧ LenV K x H n ∧ Q (.int n) H) ∨ ∃ a kvs, xs = [V.ref a] ∧ Rd H a (.dK kvs) ∧ Q (.int kvs.length) H
theorem call_lenR {X : Cx} : CallR X (.builtin "len") (fun xs H Q => ∃ a kvs, xs = [V.ref a] ∧ Rd H a (.dK kvs) ∧ Q (.int kvs.length) H) := by
  intro pins s σ H xs us Q I r h
  obtain ⟨a, kvs, rfl, ha, q⟩ := h
  obtain ⟨u, rfl, ru⟩ := vals1 r
  cases ru
  exact d_len I ha fun t s' I' => ⟨.int kvs.length, H, I', ⟨t, rfl⟩, q⟩
theorem cr_lenAll {X : Cx} : CallR X (.builtin "len") (rLenAll X.K) := call_len.or call_lenR
def dLen : List D → Option D
  | [.lst xs] => some (.int xs.length)
  | [.tup xs] => some (.int xs.length)
  | [.dct false xs] => some (.int xs.length)
  | [.str x] => if x.length ≤ sizeLine then some (.int x.length) else none
  | _ => none
theorem cv_len {K : PySem.W.Frag} : CallV (rLenAll K) dLen := by
  intro W H S vs ds d Q w a h k
  unfold dLen at h
  split at h
  · cases h
    obtain ⟨v, rfl, r⟩ := a.one
    obtain ⟨p, us, rfl, hH, z, r, _⟩ := r.lst
    exact .inl ⟨_, _, rfl, .inl ⟨us, .of hH, rfl⟩, by rw [r.length]; exact k _ H (.refl _ _) w (.int _)⟩
  · cases h
    obtain ⟨v, rfl, r⟩ := a.one
    obtain ⟨p, us, rfl, hH, z, r⟩ := r.tup
    exact .inl ⟨_, _, rfl, .inr ⟨us, .of hH, rfl⟩, by rw [r.length]; exact k _ H (.refl _ _) w (.int _)⟩
  · cases h
    obtain ⟨v, rfl, r⟩ := a.one
    obtain ⟨p, us, rfl, hH, z, r, _⟩ := r.dK
    exact .inr ⟨p, us, rfl, hH, by rw [r.length]; exact k _ H (.refl _ _) w (.int _)⟩
  · split at h
    · rename_i c
      cases h
      obtain ⟨v, rfl, r⟩ := a.one
      exact .inl ⟨_, _, rfl, by rw [r.str]; exact ⟨c, rfl⟩, k _ H (.refl _ _) w (.int _)⟩
    · cases h
  · cases h

/-- tuple(xs), list(xs) -/
def dTuple : List D → Option D
  | [.lst xs] => some (.tup xs)
  | [.tup xs] => some (.tup xs)
  | _ => none
def rTupleOf (K : PySem.W.Frag) : List V → Hp → VK → Prop := fun xs H Q => ∃ p ys, xs = [.ref p] ∧ ((SqL K H p ys ∧ ∀ l, H l = none → Q (.ref l) (upd H l (.tup ys))) ∨ (SqT K H p ys ∧ Q (.ref p) H))
theorem cv_tuple {K : PySem.W.Frag} : CallV (rTupleOf K) dTuple := by
  intro W H S vs ds d Q w a h k
  unfold dTuple at h
  split at h
  · cases h
    obtain ⟨v, rfl, r⟩ := a.one
    obtain ⟨p, us, rfl, hH, z, r, _⟩ := r.lst
    exact ⟨p, us, rfl, .inl ⟨.of hH, fun l hl => k _ _ (keep_laid hl) (w.laid hl) (rep_newT w r z hl)⟩⟩
  · cases h
    obtain ⟨v, rfl, r⟩ := a.one
    obtain ⟨p, us, rfl, hH, z, r⟩ := r.tup
    exact ⟨p, us, rfl, .inr ⟨.of hH, k _ H (.refl _ _) w (.tup hH z r)⟩⟩
  · cases h
def dList : List D → Option D
  | [.lst xs] => some (.lst xs)
  | [.tup xs] => some (.lst xs)
  | _ => none
def rListOf (K : PySem.W.Frag) : List V → Hp → VK → Prop := fun xs H Q => ∃ p ys, xs = [.ref p] ∧ (SqL K H p ys ∨ SqT K H p ys) ∧ ∀ l, H l = none → Q (.ref l) (upd H l (.lst ys))
theorem cv_list {K : PySem.W.Frag} : CallV (rListOf K) dList := by
  intro W H S vs ds d Q w a h k
  unfold dList at h
  split at h
  · cases h
    obtain ⟨v, rfl, r⟩ := a.one
    obtain ⟨p, us, rfl, hH, z, r, _⟩ := r.lst
    exact ⟨p, us, rfl, .inl (.of hH), fun l hl => k _ _ (keep_laid hl) (w.laid hl) (rep_newL w r z hl)⟩
  · cases h
    obtain ⟨v, rfl, r⟩ := a.one
    obtain ⟨p, us, rfl, hH, z, r⟩ := r.tup
    exact ⟨p, us, rfl, .inr (.of hH), fun l hl => k _ _ (keep_laid hl) (w.laid hl) (rep_newL w r z hl)⟩
  · cases h

/-- sorted(a list of data) -/
def pyD (d : D) : PyData := (D.py d).getD .none
def rSortD (K : PySem.W.Frag) (u : Nat) : List V → Hp → VK → Prop := fun xs H Q => ∃ (a : Addr) (bs : List (V × D)), xs = [.ref a] ∧ H a = some (.lst (bs.map (·.1))) ∧ bs.length ≤ sizeLine ∧ (∀ b ∈ bs, Dp K H b.1 (pyD b.2)) ∧ PySem.W.AllAlike (bs.map fun b => pyD b.2) ∧
  PySem.W.Sortable (bs.map fun b => pyD b.2) ∧ (∀ b ∈ bs, (pyD b.2).depth ≤ 40) ∧ ∀ p, H p = none → Q (.ref p) (upd H p (.lst ((bs.mergeSort (PySem.W.dataLe false fun b => pyD b.2)).map (·.1))))
theorem each_of {P : Value → V × D → Prop} : ∀ {bs : List (V × D)} {us : List Value}, Vals (bs.map (·.1)) us → (∀ b ∈ bs, ∀ u, RelV b.1 u → P u b) → PySem.W.EachIs P us bs
  | [], _, h, _ => by cases h; exact .nil
  | b :: bs, _, h, f => by
    cases h with
    | cons r t => exact .cons (f b List.mem_cons_self _ r) (each_of t fun c hc => f c (List.mem_cons_of_mem _ hc))
theorem vals_of_each : ∀ {bs : List (V × D)} {us : List Value}, PySem.W.EachIs (fun u b => RelV b.1 u) us bs → Vals (bs.map (·.1)) us
  | _, _, .nil => .nil
  | _, _, .cons r t => .cons r (vals_of_each t)
theorem cr_sortD {X : Cx} (hu : X.A.units + 64 < cLine) : CallR X (.builtin "sorted") (rSortD X.K 0) := by
  intro pins s σ H xs us Q I r h
  obtain ⟨a, bs, rfl, hH, hz, hd, hal, hs, hdp, q⟩ := h
  rw [Vals.ref1 r]
  obtain ⟨its, rv, hl, _⟩ := I.list (.of hH)
  have e := each_of (P := fun u b => RelV b.1 u) rv fun b hb u ru => ru
  have er := each_of (P := fun u b => ∃ as, Reads s.heap u (pyD b.2) as) rv fun b hb u ru => Dp.reads I _ _ _ (hd b hb) ru
  refine PySem.W.sorted_data hl.isList e er hal hs hz (fun b hb => by have := hdp b hb; omega) fun out ho eo => ?_
  obtain ⟨ep, he'⟩ := PyProof.Rows.sortedAll_at s.heap its out.toArray
  have hv := vals_of_each eo
  have hlen : ((bs.mergeSort (PySem.W.dataLe false fun b => pyD b.2)).map (·.1)).length ≤ sizeLine := by rw [List.length_map, List.length_mergeSort]; exact hz
  exact ⟨.ref _, upd H (s.heap.objs.size + 1) (.lst _), I.laid (t' := s.toks) (fun _ _ => PyProof.Rows.sortedAll_old) (Nat.le_succ _) ⟨hlen, out, ep, hv, he'⟩, rfl, q _ (I.hok.fresh (Nat.le_succ _))⟩
open Classical in
noncomputable def dSorted : List D → Option D
  | [.lst xs] => if (∀ x ∈ xs, (D.py x).isSome = true ∧ (pyD x).depth ≤ 40) ∧ PySem.W.AllAlike (xs.map pyD) ∧ PySem.W.Sortable (xs.map pyD) then some (.lst (xs.mergeSort (PySem.W.dataLe false pyD))) else none
  | _ => none
theorem RepAll.mem_zip {N : Addr → Prop} {sa : Addr} {H : Hp} : ∀ {vs : List V} {ds : List D}, RepAll N sa H vs ds → ∀ b ∈ vs.zip ds, Rep N sa H b.1 b.2
  | _, _, .nil, b, h => by simp at h
  | _, _, .cons r t, b, h => by
    rw [List.zip_cons_cons] at h
    rcases List.mem_cons.mp h with rfl | h
    · exact r
    · exact RepAll.mem_zip t b h
theorem RepAll.of_pairs {N : Addr → Prop} {sa : Addr} {H : Hp} : ∀ {bs : List (V × D)}, (∀ b ∈ bs, Rep N sa H b.1 b.2) → RepAll N sa H (bs.map (·.1)) (bs.map (·.2))
  | [], _ => .nil
  | b :: bs, h => .cons (h b List.mem_cons_self) (RepAll.of_pairs fun c hc => h c (List.mem_cons_of_mem _ hc))
theorem zip_fst {α β : Type} : ∀ {xs : List α} {ys : List β}, xs.length = ys.length → (xs.zip ys).map (·.1) = xs := fun {xs ys} h => List.map_fst_zip (by omega)
theorem zip_snd {α β : Type} : ∀ {xs : List α} {ys : List β}, xs.length = ys.length → (xs.zip ys).map (·.2) = ys := fun {xs ys} h => List.map_snd_zip (by omega)
theorem cv_sorted {K : PySem.W.Frag} : CallV (rSortD K 0) dSorted := by
  intro W H S vs ds d Q w a h k
  unfold dSorted at h
  split at h
  · rename_i xs
    split at h
    · rename_i c
      cases h
      obtain ⟨c1, c2, c3⟩ := c
      obtain ⟨v, rfl, r⟩ := a.one
      obtain ⟨p, us, rfl, hH, z, r, _⟩ := r.lst
      have e1 : (us.zip xs).map (·.1) = us := zip_fst r.length
      have e2 : (us.zip xs).map (·.2) = xs := zip_snd r.length
      have em : ((us.zip xs).map fun b => pyD b.2) = xs.map pyD := by
        conv => rhs; rw [← e2]
        rw [List.map_map]; rfl
      have rz := r.mem_zip
      have mem2 : ∀ b ∈ us.zip xs, b.2 ∈ xs := fun b hb => by rw [← e2]; exact List.mem_map_of_mem hb
      refine ⟨p, us.zip xs, rfl, by rw [e1]; exact hH, by rw [← e1, List.length_map] at z; exact z, fun b hb => ?_, by rw [em]; exact c2, by rw [em]; exact c3, fun b hb => (c1 _ (mem2 b hb)).2, fun q hq => ?_⟩
      · have hs := (c1 _ (mem2 b hb)).1
        refine (rz b hb).dp ?_
        unfold pyD
        cases e : D.py b.2 with
        | none => rw [e] at hs; cases hs
        | some pp => rfl
      · have es : ((us.zip xs).mergeSort (PySem.W.dataLe false fun b => pyD b.2)).map (·.2) = xs.mergeSort (PySem.W.dataLe false pyD) := by
          have q := List.map_mergeSort (r := PySem.W.dataLe false fun b : V × D => pyD b.2) (s := PySem.W.dataLe false pyD) (f := fun b : V × D => b.2) (l := us.zip xs) (fun a _ b _ => rfl)
          rw [e2] at q
          exact q
        rw [← es] at k
        have rs : RepAll W.no W.sa H (((us.zip xs).mergeSort (PySem.W.dataLe false fun b => pyD b.2)).map (·.1)) (((us.zip xs).mergeSort (PySem.W.dataLe false fun b => pyD b.2)).map (·.2)) :=
          RepAll.of_pairs fun b hb => rz b (List.mem_mergeSort.mp hb)
        exact k _ _ (keep_laid hq) (w.laid hq) (rep_newL w rs (by rw [List.length_map, List.length_mergeSort]; rw [← e1, List.length_map] at z; exact z) hq)
    · cases h
  · cases h

/-- all, any -/
def blOf : D → Option Bool
  | .bl b => some b
  | _ => none
def bls (xs : List D) : Option (List Bool) := xs.mapM blOf
def dAll : List D → Option D
  | [.lst xs] => (bls xs).map fun bs => .bl (bs.all id)
  | _ => none
def dAny : List D → Option D
  | [.lst xs] => (bls xs).map fun bs => .bl (bs.any id)
  | _ => none
theorem bls_rep {N : Addr → Prop} {sa : Addr} {H : Hp} : ∀ {vs : List V} {ds : List D} {bs : List Bool}, RepAll N sa H vs ds → bls ds = some bs → vs = bs.map V.bl
  | _, _, _, .nil, h => by simp only [bls, List.mapM_nil] at h; cases h; rfl
  | _, _, _, .cons (d := d) (ds := ds) r t, h => by
    simp only [bls, List.mapM_cons] at h
    cases d with
    | bl b =>
      cases e : List.mapM blOf ds with
      | none => simp [blOf, e] at h
      | some bs' =>
        simp only [blOf, e] at h
        cases h
        rw [bls_rep t e]
        cases r; rfl
    | _ => simp [blOf] at h
theorem cv_all {K : PySem.W.Frag} : CallV (rAll K) dAll := by
  intro W H S vs ds d Q w a h k
  unfold dAll at h
  split at h
  · rename_i xs
    cases e : bls xs with
    | none => rw [e] at h; cases h
    | some bs =>
      rw [e] at h; cases h
      obtain ⟨v, rfl, r⟩ := a.one
      obtain ⟨p, us, rfl, hH, z, r, _⟩ := r.lst
      rw [bls_rep r e] at hH
      exact ⟨p, bs, rfl, .of hH, k _ H (.refl _ _) w (.bl _)⟩
  · cases h
theorem cv_any {K : PySem.W.Frag} : CallV (rAny K) dAny := by
  intro W H S vs ds d Q w a h k
  unfold dAny at h
  split at h
  · rename_i xs
    cases e : bls xs with
    | none => rw [e] at h; cases h
    | some bs =>
      rw [e] at h; cases h
      obtain ⟨v, rfl, r⟩ := a.one
      obtain ⟨p, us, rfl, hH, z, r, _⟩ := r.lst
      rw [bls_rep r e] at hH
      exact ⟨p, bs, rfl, .of hH, k _ H (.refl _ _) w (.bl _)⟩
  · cases h

/-- min(i, j), max(i, j), int(x), abs(i) -/
def dMin2 : List D → Option D
  | [.int i, .int j] => some (.int (if j < i then j else i))
  | _ => none
def dMax2 : List D → Option D
  | [.int i, .int j] => some (.int (if j > i then j else i))
  | _ => none
theorem cv_min2 : CallV (fun xs H Q => ∃ i j, xs = [.int i, .int j] ∧ Q (.int (if j < i then j else i)) H) dMin2 := by
  intro W H S vs ds d Q w a h k
  unfold dMin2 at h
  split at h
  · cases h
    obtain ⟨v, u, rfl, r1, r2⟩ := a.two
    exact ⟨_, _, by rw [r1.int, r2.int], k _ H (.refl _ _) w (.int _)⟩
  · cases h
theorem cv_max2 : CallV (fun xs H Q => ∃ i j, xs = [.int i, .int j] ∧ Q (.int (if j > i then j else i)) H) dMax2 := by
  intro W H S vs ds d Q w a h k
  unfold dMax2 at h
  split at h
  · cases h
    obtain ⟨v, u, rfl, r1, r2⟩ := a.two
    exact ⟨_, _, by rw [r1.int, r2.int], k _ H (.refl _ _) w (.int _)⟩
  · cases h
def dInt : List D → Option D
  | [.int i] => some (.int i)
  | [.bl b] => some (.int (if b then 1 else 0))
  | _ => none
theorem cv_int : CallV (fun xs H Q => (∃ i, xs = [.int i] ∧ Q (.int i) H) ∨ ∃ k, xs = [.bl k] ∧ Q (.int (if k then 1 else 0)) H) dInt := by
  intro W H S vs ds d Q w a h k
  unfold dInt at h
  split at h
  · cases h
    obtain ⟨v, rfl, r1⟩ := a.one
    exact .inl ⟨_, by rw [r1.int], k _ H (.refl _ _) w (.int _)⟩
  · cases h
    obtain ⟨v, rfl, r1⟩ := a.one
    exact .inr ⟨_, by rw [r1.bl], k _ H (.refl _ _) w (.int _)⟩
  · cases h
def dAbs : List D → Option D
  | [.int i] => some (.int (if i < 0 then -i else i))
  | _ => none
theorem cv_abs : CallV (fun xs H Q => ∃ i, xs = [.int i] ∧ Q (.int (if i < 0 then -i else i)) H) dAbs := by
  intro W H S vs ds d Q w a h k
  unfold dAbs at h
  split at h
  · cases h
    obtain ⟨v, rfl, r1⟩ := a.one
    exact ⟨_, by rw [r1.int], k _ H (.refl _ _) w (.int _)⟩
  · cases h
end L2.EV

/-! EV, part D: targets, what is walked, comprehensions, calls of the text's own defs. -/
namespace L2.EV
open PySem PySem.Spec PyProof.Rows

/-! ### steps of worlds -/
def Wd.add (W : Wd) (p : Addr) : Wd := { W with L := fun a => W.L a ∨ a = p }
/-- nothing but the source's cells may have changed; new places may be owned -/
structure KeepC (W : Wd) (H : Hp) (W' : Wd) (H' : Hp) : Prop where
  C : W'.C = W.C
  sa : W'.sa = W.sa
  ca : W'.ca = W.ca
  lm : ∀ a, W.L a → W'.L a
  ln : ∀ a, W'.L a → W.L a ∨ H a = none
  k : Keep W H H'
/-- what is owned here may have changed, too -/
structure KeepS (W : Wd) (H : Hp) (W' : Wd) (H' : Hp) : Prop where
  C : W'.C = W.C
  sa : W'.sa = W.sa
  ca : W'.ca = W.ca
  ln : ∀ a, W'.L a → W.L a ∨ H a = none
  k : ∀ a o, ¬ W.L a → a ≠ W.sa → a ≠ W.ca → H a = some o → H' a = some o
section
variable {W W' W1 : Wd} {H H' H1 : Hp} {S S' S1 : Src} {v : V} {d : D} {a : Addr} {σ : St} {ρ : Ev} {c : Cell}
theorem KeepC.refl : KeepC W H W H := ⟨rfl, rfl, rfl, fun _ h => h, fun _ h => .inl h, .refl _ _⟩
theorem KeepC.of (k : Keep W H H') : KeepC W H W H' := ⟨rfl, rfl, rfl, fun _ h => h, fun _ h => .inl h, k⟩
theorem KeepS.of (k : Keep W H H') : KeepS W H W H' := ⟨rfl, rfl, rfl, fun _ h => .inl h, fun a o _ h1 h2 h => k a o h1 h2 h⟩
theorem KeepS.refl : KeepS W H W H := .of (.refl _ _)
theorem KeepC.s (k : KeepC W H W' H') : KeepS W H W' H' := ⟨k.C, k.sa, k.ca, k.ln, fun a o _ h1 h2 h => k.k a o h1 h2 h⟩
theorem none_back (w : WRel W H S) (k : ∀ a o, ¬ W.L a → a ≠ W.sa → a ≠ W.ca → H a = some o → H' a = some o) (h : H' a = none) (hn : ¬ W.L a) (w' : WRel W' H' S') (es : W'.sa = W.sa) (ec : W'.ca = W.ca) : H a = none := by
  cases e : H a with
  | none => rfl
  | some o =>
    have h1 : a ≠ W.sa := by rintro rfl; rw [← es, w'.hs] at h; cases h
    have h2 : a ≠ W.ca := by rintro rfl; rw [← ec, w'.hc] at h; cases h
    rw [k a o hn h1 h2 e] at h; cases h
theorem KeepS.trans (w1 : WRel W1 H1 S1) (w : WRel W H S) (x : KeepS W H W1 H1) (y : KeepS W1 H1 W' H') : KeepS W H W' H' where
  C := y.C.trans x.C
  sa := y.sa.trans x.sa
  ca := y.ca.trans x.ca
  ln := fun a h => by
    rcases y.ln a h with h | h
    · exact x.ln a h
    · by_cases hl : W.L a
      · exact .inl hl
      · exact .inr (none_back w x.k h hl w1 x.sa x.ca)
  k := fun a o hn h1 h2 h => by
    refine y.k a o (fun hl => ?_) (by rw [x.sa]; exact h1) (by rw [x.ca]; exact h2) (x.k a o hn h1 h2 h)
    rcases x.ln a hl with z | z
    · exact hn z
    · rw [z] at h; cases h
theorem KeepC.trans (w1 : WRel W1 H1 S1) (w : WRel W H S) (x : KeepC W H W1 H1) (y : KeepC W1 H1 W' H') : KeepC W H W' H' where
  C := y.C.trans x.C
  sa := y.sa.trans x.sa
  ca := y.ca.trans x.ca
  lm := fun a h => y.lm a (x.lm a h)
  ln := fun a h => by
    rcases y.ln a h with h | h
    · exact x.ln a h
    · by_cases hl : W.L a
      · exact .inl hl
      · exact .inr (none_back w (fun a o _ h1 h2 h => x.k a o h1 h2 h) h hl w1 x.sa x.ca)
  k := fun a o h1 h2 h => y.k a o (by rw [x.sa]; exact h1) (by rw [x.ca]; exact h2) (x.k a o h1 h2 h)
theorem tup_noL (w : WRel W H S) {vs : List V} (h : H a = some (.tup vs)) : ¬ W.L a := fun l => by
  have m := w.mu a (.inr l); rw [h] at m; exact m
theorem stepN (k : KeepS W H W' H') : ∀ a o, ¬ W.no a → H a = some o → H' a = some o ∧ ¬ W'.no a := fun a o n h => by
  refine ⟨k.k a o (fun l => n (.inr (.inl l))) (no_ne n).1 (no_ne n).2 h, ?_⟩
  rintro (z | z | z | z)
  · rw [k.C] at z; exact n (.inl z)
  · rcases k.ln a z with z | z
    · exact n (.inr (.inl z))
    · rw [z] at h; cases h
  · rw [k.sa] at z; exact (no_ne n).1 z
  · rw [k.ca] at z; exact (no_ne n).2 z
theorem stepT (w : WRel W H S) (k : KeepS W H W' H') : ∀ a vs, H a = some (.tup vs) → H' a = some (.tup vs) := fun a vs h => k.k a _ (tup_noL w h) (w.tupne h).1 (w.tupne h).2 h
theorem Rep.step (w : WRel W H S) (k : KeepS W H W' H') (r : Rep W.no W.sa H v d) : Rep W'.no W'.sa H' v d := by rw [k.sa]; exact r.imp (stepT w k) (stepN k)
theorem RepAll.step (w : WRel W H S) (k : KeepS W H W' H') {vs : List V} {ds : List D} (r : RepAll W.no W.sa H vs ds) : RepAll W'.no W'.sa H' vs ds := by rw [k.sa]; exact r.imp (stepT w k) (stepN k)
theorem RepK.step (w : WRel W H S) (k : KeepS W H W' H') {vs : List (Key × V)} {ds : List (DKey × D)} (r : RepK W.no W.sa H vs ds) : RepK W'.no W'.sa H' vs ds := by rw [k.sa]; exact r.imp (stepT w k) (stepN k)
theorem RepT.step (w : WRel W H S) (k : KeepS W H W' H') {vs : List (List Key × V)} {ds : List (DKey × D)} (r : RepT W.no W.sa H vs ds) : RepT W'.no W'.sa H' vs ds := by rw [k.sa]; exact r.imp (stepT w k) (stepN k)
theorem Top.step (w : WRel W H S) (k : KeepS W H W' H') (ha : ∀ o, H a = some o → H' a = some o) (t : Top W H a d) : Top W' H' a d := by
  cases d with
  | lst ds => obtain ⟨vs, h, z, r⟩ := t; exact ⟨vs, ha _ h, z, r.step w k⟩
  | dct b kds =>
    cases b with
    | false => obtain ⟨vs, h, z, r⟩ := t; exact ⟨vs, rd_keep ha h, z, r.step w k⟩
    | true => obtain ⟨vs, h, z, r⟩ := t; exact ⟨vs, rd_keep ha h, z, r.step w k⟩
  | _ => exact t.elim
theorem RepI.step (w : WRel W H S) (k : KeepC W H W' H') (r : RepI W H v d) : RepI W' H' v d := by
  rcases r with r | ⟨a, e, h1, h2, t⟩
  · exact .inl (r.step w k.s)
  · exact .inr ⟨a, e, by rw [k.sa]; exact h1, by rw [k.ca]; exact h2, t.step w k.s fun o h => k.k a o h1 h2 h⟩
theorem RepB.step (w : WRel W H S) (k : KeepC W H W' H') (r : RepB W H v d) : RepB W' H' v d := by
  rcases r with r | ⟨a, e, h1, h2, h3, t⟩
  · exact .inl (r.step w k.s)
  · exact .inr ⟨a, e, by rw [k.sa]; exact h1, by rw [k.ca]; exact h2, fun z => (k.ln a z).elim h3 t.ne0, t.step w k.s fun o h => k.k a o h1 h2 h⟩
theorem CellRel.step (w : WRel W H S) (k : KeepC W H W' H') (r : CellRel W H v c) : CellRel W' H' v c := by
  cases c with
  | s d => exact Rep.step w k.s r
  | b d => exact RepB.step w k r
  | o d =>
    obtain ⟨a, e, l, t⟩ := r
    have n := w.ne a (.inr l)
    exact ⟨a, e, k.lm a l, t.step w k.s fun o h => k.k a o n.1 n.2 h⟩
theorem EnvRel.step (e : EnvRel W H σ ρ) (w : WRel W H S) (k : KeepC W H W' H') : EnvRel W' H' σ ρ :=
  ⟨e.len, fun i c h => let ⟨v, h1, h2⟩ := e.get i c h; ⟨v, h1, h2.step w k⟩, e.sep⟩
theorem KeepC.add {p : Addr} (k : Keep W H H') (h : H p = none) : KeepC W H (W.add p) H' := ⟨rfl, rfl, rfl, fun _ h => .inl h, fun a z => z.elim .inl fun e => .inr (by rw [e]; exact h), k⟩
theorem Rep.weakN {N N' : Addr → Prop} {sa : Addr} (h : ∀ a, N' a → N a) (r : Rep N sa H v d) : Rep N' sa H v d := r.imp (fun _ _ e => e) fun a o n e => ⟨e, fun z => n (h a z)⟩
theorem RepAll.weakN {N N' : Addr → Prop} {sa : Addr} {vs : List V} {ds : List D} (h : ∀ a, N' a → N a) (r : RepAll N sa H vs ds) : RepAll N' sa H vs ds := r.imp (fun _ _ e => e) fun a o n e => ⟨e, fun z => n (h a z)⟩
theorem no_add {p : Addr} : ∀ a, W.no a → (W.add p).no a := fun a h => by
  rcases h with h | h | h | h
  · exact .inl h
  · exact .inr (.inl (.inl h))
  · exact .inr (.inr (.inl h))
  · exact .inr (.inr (.inr h))
/-- a new list is laid and owned -/
theorem WRel.own {p : Addr} {o : HO} (w : WRel W H S) (h : H p = none) (m : Mut (some o)) : WRel (W.add p) (upd H p o) S where
  hs := upd_keep h w.hs
  hc := upd_keep h w.hc
  mu := fun a ha => by
    by_cases e : a = p
    · subst e; rw [upd_same]; exact EV.Mut.f m
    · rw [upd_ne e]
      rcases ha with ha | ha | ha
      · exact w.mu a (.inl ha)
      · exact w.mu a (.inr ha)
      · exact absurd ha e
  ne := fun a ha => by
    rcases ha with ha | ha | ha
    · exact w.ne a (.inl ha)
    · exact w.ne a (.inr ha)
    · subst ha
      constructor
      · intro e
        have e : a = W.sa := e
        rw [e, w.hs] at h; cases h
      · intro e
        have e : a = W.ca := e
        rw [e, w.hc] at h; cases h
  ap := fun a ha hc => by
    rcases ha with ha | ha
    · exact w.ap a ha hc
    · subst ha
      have m := w.mu a (.inl hc); rw [h] at m; exact m
  ml := fun a ha => by
    by_cases e : a = p
    · subst e; rw [upd_same]; exact m
    · rw [upd_ne e]
      rcases ha with ha | ha
      · exact w.ml a ha
      · exact absurd ha e
/-- what is owned is written -/
theorem WRel.wrote {p : Addr} {o : HO} (w : WRel W H S) (l : W.L p) (m : Mut (some o)) : WRel W (upd H p o) S where
  hs := by rw [upd_ne (w.ne p (.inr l)).1.symm]; exact w.hs
  hc := by rw [upd_ne (w.ne p (.inr l)).2.symm]; exact w.hc
  mu := fun a ha => by
    by_cases e : a = p
    · subst e; rw [upd_same]; exact EV.Mut.f m
    · rw [upd_ne e]; exact w.mu a ha
  ne := w.ne
  ap := w.ap
  ml := fun a ha => by
    by_cases e : a = p
    · subst e; rw [upd_same]; exact m
    · rw [upd_ne e]; exact w.ml a ha
theorem KeepS.wrote {p : Addr} {o : HO} (l : W.L p) : KeepS W H W (upd H p o) := ⟨rfl, rfl, rfl, fun _ h => .inl h, fun a o n _ _ h => by rw [upd_ne (fun e => n (by rw [e]; exact l))]; exact h⟩
/-- an owned place is let go: it becomes storable -/
def Wd.del (W : Wd) (p : Addr) : Wd := { W with L := fun a => W.L a ∧ a ≠ p }
end

/-! ### env, again -/
section
variable {W : Wd} {H H' : Hp} {S S' : Src} {v : V} {d : D} {a : Addr} {σ : St} {ρ : Ev} {c : Cell}
theorem EnvRel.setc {i : Nat} (e : EnvRel W H σ ρ) (r : CellRel W H v c) (sp : ∀ d a, c = .o d → v = .ref a → ∀ j d', j ≠ i → ρ[j]? = some (some (.o d')) → σ[j]? ≠ some (some (.ref a))) : EnvRel W H (σ.set i (some v)) (ρ.set i (some c)) := by
  by_cases hi : i < ρ.length
  · have hi' : i < σ.length := by rw [e.len]; exact hi
    refine ⟨by simp [e.len], fun j c' h => ?_, fun j k a d1 d2 h1 h2 h3 h4 => ?_⟩
    · by_cases hj : i = j
      · subst hj
        rw [List.getElem?_set_self hi] at h
        cases h
        exact ⟨v, by rw [List.getElem?_set_self hi'], r⟩
      · rw [List.getElem?_set_ne hj] at h
        obtain ⟨u, h1, h2⟩ := e.get j c' h
        exact ⟨u, by rw [List.getElem?_set_ne hj]; exact h1, h2⟩
    · by_cases hj : i = j
      · subst hj
        by_cases hk : i = k
        · exact hk
        · rw [List.getElem?_set_self hi] at h1
          rw [List.getElem?_set_self hi'] at h3
          rw [List.getElem?_set_ne hk] at h2 h4
          cases h1
          cases h3
          exact absurd h4 (sp d1 a rfl rfl k d2 (Ne.symm hk) h2)
      · by_cases hk : i = k
        · subst hk
          rw [List.getElem?_set_self hi] at h2
          rw [List.getElem?_set_self hi'] at h4
          rw [List.getElem?_set_ne hj] at h1 h3
          cases h2
          cases h4
          exact absurd h3 (sp d2 a rfl rfl j d1 (Ne.symm hj) h1)
        · rw [List.getElem?_set_ne hj] at h1 h3
          rw [List.getElem?_set_ne hk] at h2 h4
          exact e.sep j k a d1 d2 h1 h2 h3 h4
  · rw [List.set_eq_of_length_le (by rw [e.len]; omega), List.set_eq_of_length_le (by omega)]
    exact e
theorem EnvRel.sets {i : Nat} (e : EnvRel W H σ ρ) (r : Rep W.no W.sa H v d) : EnvRel W H (σ.set i (some v)) (ρ.set i (some (.s d))) := e.setc (c := .s d) r fun _ _ z => nomatch z
def wipeE (ρ : Ev) : List Nat → Ev
  | [] => ρ
  | v :: vs => (wipeE ρ vs).set v none
theorem EnvRel.wipe (e : EnvRel W H σ ρ) : ∀ vs : List Nat, EnvRel W H (wipe σ vs) (wipeE ρ vs)
  | [] => e
  | v :: vs => (EnvRel.wipe e vs).wipe1
end

/-! ### targets -/
def TGv (is : List Nat) (t : TG) (g : D → Ev → Option Ev) : Prop := ∀ (W : Wd) (H : Hp) (S : Src) (v : V) (d : D) (σ : St) (ρ ρ' : Ev) (Q : St → Hp → Prop), WRel W H S → EnvRel W H σ ρ → Rep W.no W.sa H v d → g d ρ = some ρ' →
  (∀ σ', EnvRel W H σ' ρ' → wipe σ' is = wipe σ is → Q σ' H) → t v σ H Q
def TGsv (is : List Nat) (t : TGs) (g : List D → Ev → Option Ev) : Prop := ∀ (W : Wd) (H : Hp) (S : Src) (vs : List V) (ds : List D) (σ : St) (ρ ρ' : Ev) (Q : St → Hp → Prop), WRel W H S → EnvRel W H σ ρ → RepAll W.no W.sa H vs ds → g ds ρ = some ρ' →
  (∀ σ', EnvRel W H σ' ρ' → wipe σ' is = wipe σ is → Q σ' H) → t vs σ H Q
structure EG (X : Cx) (tg : Expr) (is : List Nat) (g : D → Ev → Option Ev) : Prop where ex : ∃ t, PG X tg t ∧ TGv is t g
structure EGs (X : Cx) (ts : List Expr) (is : List Nat) (g : List D → Ev → Option Ev) : Prop where ex : ∃ t, PGs X ts t ∧ TGsv is t g
def gN (i : Nat) : D → Ev → Option Ev := fun d ρ => some (ρ.set i (some (.s d)))
def gNil0 : List D → Ev → Option Ev := fun ds ρ => match ds with
  | [] => some ρ
  | _ => none
def gCons0 (g : D → Ev → Option Ev) (gs : List D → Ev → Option Ev) : List D → Ev → Option Ev := fun ds ρ => match ds with
  | d :: r => (g d ρ).bind (gs r)
  | [] => none
def gT (gs : List D → Ev → Option Ev) : D → Ev → Option Ev := fun d ρ => match d with
  | .tup ds => gs ds ρ
  | _ => none
theorem wipe_set (σ : St) (i : Nat) (o : Option V) : ∀ is : List Nat, i ∈ is → wipe (σ.set i o) is = wipe σ is
  | [], h => nomatch h
  | j :: js, h => by
    show (wipe (σ.set i o) js).set j none = (wipe σ js).set j none
    by_cases e : i ∈ js
    · rw [wipe_set σ i o js e]
    · have ej : i = j := by
        rcases List.mem_cons.mp h with h | h
        · exact h
        · exact absurd h e
      subst ej
      have go : ∀ (ks : List Nat), wipe (σ.set i o) ks = wipe (σ.set i o) ks := fun _ => rfl
      have key : ∀ ks : List Nat, i ∉ ks → wipe (σ.set i o) ks = (wipe σ ks).set i o := by
        intro ks
        induction ks with
        | nil => intro _; rfl
        | cons k ks ih =>
          intro hk
          have h1 : i ≠ k := fun z => hk (by rw [z]; exact List.mem_cons_self)
          show (wipe (σ.set i o) ks).set k none = ((wipe σ ks).set k none).set i o
          rw [ih (fun z => hk (List.mem_cons_of_mem _ z)), List.set_comm _ _ h1]
      rw [key js e, List.set_set]
theorem wipe_sub (σ : St) (is : List Nat) : ∀ js : List Nat, (∀ j ∈ js, j ∈ is) → wipe (wipe σ js) is = wipe σ is
  | [], _ => rfl
  | j :: js, h => by
    show wipe ((wipe σ js).set j none) is = wipe σ is
    rw [wipe_set _ j none is (h j List.mem_cons_self)]
    exact wipe_sub σ is js fun k hk => h k (List.mem_cons_of_mem _ hk)
theorem wipe_wipe (σ : St) (is : List Nat) : wipe (wipe σ is) is = wipe σ is := wipe_sub σ is is fun _ h => h
section
variable {X : Cx} {pos : Pos}
theorem eg_name (i : Nat) {x : Str} (hN : X.N.Nodup) (hi : X.N[i]? = some x := by rfl) (hx : Loc X.env.scope x := by first | exact Or.inl rfl | exact Or.inr rfl) (hf : X.fn x = true ∨ X.env.scope.names.lookup x = some .local := by first | exact .inl rfl | exact .inr rfl | assumption)
    {is : List Nat} (hm : i ∈ is := by decide) : EG X (.Name x pos) is (gN i) := by
  refine ⟨_, pg_name hN hi hx hf, fun W H S v d σ ρ ρ' Q w er r h k => ?_⟩
  cases h
  exact k _ (er.sets r) (wipe_set σ i _ is hm)
theorem egs_nil {is : List Nat} : EGs X [] is gNil0 := by
  refine ⟨_, pgs_nil, fun W H S vs ds σ ρ ρ' Q w er r h k => ?_⟩
  cases r with
  | nil => cases h; exact ⟨rfl, k σ er rfl⟩
  | cons _ _ => cases h
theorem egs_cons {is : List Nat} {e : Expr} {es : List Expr} {g : D → Ev → Option Ev} {gs : List D → Ev → Option Ev} (h1 : EG X e is g) (h2 : EGs X es is gs)
    (hs : (assignEach (e :: es) X.env).map (·.2) = assign e X.env :: (assignEach es X.env).map (·.2) := by rfl) : EGs X (e :: es) is (gCons0 g gs) := by
  obtain ⟨t, p1, q1⟩ := h1.ex
  obtain ⟨u, p2, q2⟩ := h2.ex
  refine ⟨_, pgs_cons p1 p2 hs, fun W H S vs ds σ ρ ρ' Q w er r h k => ?_⟩
  cases r with
  | nil => cases h
  | cons r rs =>
    rename_i v d vr dr
    obtain ⟨ρ1, e1, e2⟩ := Option.bind_eq_some_iff.mp h
    refine ⟨v, vr, rfl, q1 W H S v d σ ρ ρ1 _ w er r e1 fun σ1 er1 hw1 => ?_⟩
    exact q2 W H S vr dr σ1 ρ1 ρ' Q w er1 rs e2 fun σ2 er2 hw2 => k σ2 er2 (hw2.trans hw1)
theorem eg_tup {is : List Nat} {es : List Expr} {kk n : Nat} {gs : List D → Ev → Option Ev} (hc : X.calm = true) (h : EGs X es is gs) (hl : ∀ ds ρ ρ', gs ds ρ = some ρ' → ds.length = n)
    (hn : (assignEach es X.env).length = n := by rfl) (hst : (assignEach es X.env).findIdx? (·.1) = none := by rfl) : EG X (.Tuple es kk pos) is (gT gs) := by
  obtain ⟨t, p1, q1⟩ := h.ex
  refine ⟨_, pg_tup hc p1 hn hst, fun W H S v d σ ρ ρ' Q w er r hg k => ?_⟩
  cases d with
  | tup ds =>
    obtain ⟨a, vs, rfl, hH, z, r⟩ := (RepI.tup (.inl r))
    exact ⟨a, vs, rfl, .of hH, by rw [r.length]; exact hl ds ρ ρ' hg, q1 W H S vs ds σ ρ ρ' Q w er r hg k⟩
  | _ => cases hg
end
theorem len_nil {ds : List D} {ρ ρ' : Ev} (h : gNil0 ds ρ = some ρ') : ds.length = 0 := by
  cases ds with
  | nil => rfl
  | cons _ _ => cases h
theorem len_cons {g : D → Ev → Option Ev} {gs : List D → Ev → Option Ev} {n : Nat} (hl : ∀ ds ρ ρ', gs ds ρ = some ρ' → ds.length = n) : ∀ ds ρ ρ', gCons0 g gs ds ρ = some ρ' → ds.length = n + 1 := fun ds ρ ρ' h => by
  cases ds with
  | nil => cases h
  | cons d r =>
    obtain ⟨ρ1, e1, e2⟩ := Option.bind_eq_some_iff.mp h
    rw [List.length_cons, hl r ρ1 ρ' e2]

/-! ### what is walked -/
structure Yields (R : Wd → Hp → Prop) (J : It) (ds : List D) : Prop where
  go : ∀ (i : Nat) (W : Wd) (H : Hp) (S : Src), i < ds.length → R W H → WRel W H S → J.go i H
  stop : ∀ (W : Wd) (H : Hp) (S : Src), R W H → WRel W H S → J.stop ds.length H
  yld : ∀ (i : Nat) (d : D) (W : Wd) (H : Hp) (S : Src) (x : V) (H' : Hp), ds[i]? = some d → R W H → WRel W H S → J.yld i H x H' → Keep W H H' ∧ WRel W H' S ∧ Rep W.no W.sa H' x d
theorem Yields.walk {R : Wd → Hp → Prop} {J : It} {ds : List D} (y : Yields R J ds) : Walk J ds.length (fun H => ∃ W S, R W H ∧ WRel W H S) (fun i H x H' => ∀ d W S, ds[i]? = some d → R W H → WRel W H S → Keep W H H' ∧ WRel W H' S ∧ Rep W.no W.sa H' x d) :=
  ⟨fun i H hi ⟨W, S, r, w⟩ => y.go i W H S hi r w, fun H ⟨W, S, r, w⟩ => y.stop W H S r w, fun i H x H' _ _ h d W S e r w => y.yld i d W H S x H' e r w h⟩
def TIs (t : TI) (f : Ev → M (List D)) : Prop := ∀ (W : Wd) (σ : St) (H : Hp) (ρ : Ev) (S : Src) (ds : List D) (S' : Src) (R : It → Hp → Prop), WRel W H S → EnvRel W H σ ρ → f ρ S = some (ds, S') →
  (∀ J H1, Keep W H H1 → WRel W H1 S' → Yields (fun W2 H2 => KeepS W H1 W2 H2) J ds → R J H1) → t σ H R
def TIc (t : TI) (f : Ev → M (List D)) : Prop := ∀ (W : Wd) (σ : St) (H : Hp) (ρ : Ev) (S : Src) (ds : List D) (S' : Src) (R : It → Hp → Prop), WRel W H S → EnvRel W H σ ρ → f ρ S = some (ds, S') →
  (∀ J H1, Keep W H H1 → WRel W H1 S' → ds.length ≤ sizeLine → Yields (fun W2 H2 => KeepC W H1 W2 H2) J ds → R J H1) → t σ H R
/-- for a for; for a comprehension -/
structure ItS (X : Cx) (tg iter : Expr) (f : Ev → M (List D)) : Prop where ex : ∃ t, PI X tg iter t ∧ TIs t f
structure ItC (X : Cx) (tg iter : Expr) (f : Ev → M (List D)) : Prop where ex : ∃ t, PI X tg iter t ∧ TIc t f
def seqOf : D → Option (List D)
  | .lst ds => some ds
  | .tup ds => some ds
  | _ => none
def iSeq (f : Ev → M D) : Ev → M (List D) := fun ρ => f ρ >>= fun d => M.of (seqOf d)
section
variable {X : Cx} {tg e a b : Expr} {f g : Ev → M D}
theorem PI.or {w1 w2 : TI} (h1 : PI X tg e w1) (h2 : PI X tg e w2) : PI X tg e (fun σ H R => w1 σ H R ∨ w2 σ H R) :=
  ⟨fun pins s σ H R I h => h.elim (fun h => h1.run pins s σ H R I h) fun h => h2.run pins s σ H R I h⟩
variable {W : Wd} {H H1 : Hp} {S : Src}
theorem yields_lst {K : PySem.W.Frag} {p : Addr} {vs : List V} {ds : List D} {R : Wd → Hp → Prop} (h : ∀ W2 H2 S2, R W2 H2 → WRel W2 H2 S2 → H2 p = some (.lst vs) ∧ RepAll W2.no W2.sa H2 vs ds) : Yields R (Itl K p) ds where
  go := fun i W H S hi r w => by
    obtain ⟨h1, h2⟩ := h W H S r w
    have hl : i < vs.length := by rw [h2.length]; exact hi
    exact ⟨vs, vs[i], .of h1, by simp [hl]⟩
  stop := fun W H S r w => by
    obtain ⟨h1, h2⟩ := h W H S r w
    exact ⟨vs, .of h1, Nat.le_of_eq h2.length⟩
  yld := fun i d W H S x H' e r w y => by
    obtain ⟨h1, h2⟩ := h W H S r w
    obtain ⟨rfl, y⟩ := y
    obtain ⟨v, e1, e2⟩ := h2.get e
    have e3 := y vs (.of h1)
    rw [e1] at e3; cases e3
    exact ⟨.refl _ _, w, e2⟩
theorem yields_tup {K : PySem.W.Frag} {p : Addr} {vs : List V} {ds : List D} {R : Wd → Hp → Prop} (h : ∀ W2 H2 S2, R W2 H2 → WRel W2 H2 S2 → H2 p = some (.tup vs) ∧ RepAll W2.no W2.sa H2 vs ds) : Yields R (Itt K p) ds where
  go := fun i W H S hi r w => by
    obtain ⟨h1, h2⟩ := h W H S r w
    have hl : i < vs.length := by rw [h2.length]; exact hi
    exact ⟨vs, vs[i], .of h1, by simp [hl]⟩
  stop := fun W H S r w => by
    obtain ⟨h1, h2⟩ := h W H S r w
    exact ⟨vs, .of h1, Nat.le_of_eq h2.length⟩
  yld := fun i d W H S x H' e r w y => by
    obtain ⟨h1, h2⟩ := h W H S r w
    obtain ⟨rfl, y⟩ := y
    obtain ⟨v, e1, e2⟩ := h2.get e
    have e3 := y vs (.of h1)
    rw [e1] at e3; cases e3
    exact ⟨.refl _ _, w, e2⟩
theorem is_seq (he : EE X e f) : ItS X tg e (iSeq f) := by
  obtain ⟨t, p1, q1⟩ := he.ex
  refine ⟨_, PI.or (pi_list p1) (pi_tup p1), fun W σ H ρ S ds S' R w er hf k => ?_⟩
  obtain ⟨d, S1, h1, hf⟩ := M.bind_eq hf
  obtain ⟨h2, rfl⟩ := M.of_eq hf
  cases d with
  | lst ds' =>
    cases h2
    refine .inl (q1 W σ H ρ S _ S1 _ w er h1 fun v H1 k1 w1 r1 => ?_)
    cases r1 with
    | lst hH n z r =>
      exact ⟨_, rfl, ⟨_, .of hH⟩, k _ H1 k1 w1 (yields_lst fun W2 H2 S2 ks w2 => ⟨(stepN ks _ _ n hH).1, r.step w1 ks⟩)⟩
  | tup ds' =>
    cases h2
    refine .inr (q1 W σ H ρ S _ S1 _ w er h1 fun v H1 k1 w1 r1 => ?_)
    cases r1 with
    | tup hH z r =>
      exact ⟨_, rfl, ⟨_, .of hH⟩, k _ H1 k1 w1 (yields_tup fun W2 H2 S2 ks w2 => ⟨stepT w1 ks _ _ hH, r.step w1 ks⟩)⟩
  | _ => cases h2
theorem ic_seq (he : EI X e f) : ItC X tg e (iSeq f) := by
  obtain ⟨t, p1, q1⟩ := he.ex
  refine ⟨_, PI.or (pi_list p1) (pi_tup p1), fun W σ H ρ S ds S' R w er hf k => ?_⟩
  obtain ⟨d, S1, h1, hf⟩ := M.bind_eq hf
  obtain ⟨h2, rfl⟩ := M.of_eq hf
  cases d with
  | lst ds' =>
    cases h2
    refine .inl (q1 W σ H ρ S _ S1 _ w er h1 fun v H1 k1 w1 r1 => ?_)
    obtain ⟨p, vs, rfl, hH, z, r, n1, n2⟩ := r1.lst
    exact ⟨p, rfl, ⟨_, .of hH⟩, k _ H1 k1 w1 (by rw [← r.length]; exact z) (yields_lst fun W2 H2 S2 ks w2 => ⟨ks.k _ _ n1 n2 hH, r.step w1 ks.s⟩)⟩
  | tup ds' =>
    cases h2
    refine .inr (q1 W σ H ρ S _ S1 _ w er h1 fun v H1 k1 w1 r1 => ?_)
    obtain ⟨p, vs, rfl, hH, z, r⟩ := r1.tup
    exact ⟨p, rfl, ⟨_, .of hH⟩, k _ H1 k1 w1 (by rw [← r.length]; exact z) (yields_tup fun W2 H2 S2 ks w2 => ⟨stepT w1 ks.s _ _ hH, r.step w1 ks.s⟩)⟩
  | _ => cases h2
/-! ranges -/
def rangeD (lo : Int) (n : Nat) : List D := (List.range n).map fun i => .int (lo + (i : Nat))
def okR (i : Int) : Bool := decide (-(2 ^ 62) ≤ i ∧ i < 2 ^ 62)
def rng1 : List D → Option (List D)
  | [.int j] => if okR j then some (rangeD 0 j.toNat) else none
  | _ => none
def rng2 : List D → Option (List D)
  | [.int i, .int j] => if okR i && okR j then some (rangeD i (j - i).toNat) else none
  | _ => none
def short (ds : List D) : Option (List D) := if ds.length ≤ sizeLine then some ds else none
def iRng (h : List D → Option (List D)) (f : Ev → M (List D)) : Ev → M (List D) := fun ρ => f ρ >>= fun ds => M.of (h ds)
theorem yields_range {lo : Int} {n : Nat} {R : Wd → Hp → Prop} : Yields R (Itr lo n) (rangeD lo n) where
  go := fun i W H S hi r w => by unfold rangeD at hi; rw [List.length_map, List.length_range] at hi; exact hi
  stop := fun W H S r w => by
    show n ≤ (rangeD lo n).length
    unfold rangeD; rw [List.length_map, List.length_range]; exact Nat.le_refl _
  yld := fun i d W H S x H' e r w y => by
    obtain ⟨rfl, rfl⟩ := y
    unfold rangeD at e
    rw [List.getElem?_map] at e
    cases q : (List.range n)[i]? with
    | none => rw [q] at e; cases e
    | some j =>
      rw [q] at e; cases e
      have hj : j = i := by
        rw [List.getElem?_range (by obtain ⟨h, _⟩ := List.getElem?_eq_some_iff.mp q; rw [List.length_range] at h; exact h)] at q
        exact (Option.some.inj q).symm
      subst hj
      exact ⟨.refl _ _, w, .int _⟩
variable {p pos : Pos} {ms : List Bool} {fa : Ev → M (List D)}
theorem rng1_eq {ds es : List D} (h : rng1 ds = some es) : ∃ j : Int, ds = [.int j] ∧ -(2 ^ 62) ≤ j ∧ j < 2 ^ 62 ∧ es = rangeD 0 j.toNat := by
  unfold rng1 at h
  split at h
  · split at h
    · rename_i j c
      cases h
      have c := of_decide_eq_true c
      exact ⟨j, rfl, c.1, c.2, rfl⟩
    · cases h
  · cases h
theorem rng2_eq {ds es : List D} (h : rng2 ds = some es) : ∃ i j : Int, ds = [.int i, .int j] ∧ (-(2 ^ 62) ≤ i ∧ i < 2 ^ 62 ∧ -(2 ^ 62) ≤ j ∧ j < 2 ^ 62) ∧ es = rangeD i (j - i).toNat := by
  unfold rng2 at h
  split at h
  · split at h
    · rename_i i j c
      cases h
      rw [Bool.and_eq_true] at c
      have c1 := of_decide_eq_true c.1
      have c2 := of_decide_eq_true c.2
      exact ⟨i, j, rfl, ⟨c1.1, c1.2, c2.1, c2.2⟩, rfl⟩
    · cases h
  · cases h
theorem is_rng1 (hm : X.mg "range" = none) (ha : EA X ms [a] fa) (hg : Gl X "range" := by rfl) (hs : starEach [a] X.env = [(false, eval a X.env)] := by rfl) : ItS X tg (.Call (.Name "range" p) [a] [] pos) (iRng rng1 fa) := by
  obtain ⟨t, p1, q1⟩ := ha.ex
  refine ⟨_, pi_range1 hg hm p1 hs, fun W σ H ρ S ds S' R w er hf k => ?_⟩
  obtain ⟨d, S1, h1, hf⟩ := M.bind_eq hf
  obtain ⟨h2, rfl⟩ := M.of_eq hf
  obtain ⟨j, rfl, c1, c2, rfl⟩ := rng1_eq h2
  refine q1 W σ H ρ S _ S1 _ w er h1 fun vs H1 k1 w1 r1 => ?_
  obtain ⟨v, rfl, r⟩ := r1.i.one
  exact ⟨j, by rw [r.int], c1, c2, k _ H1 k1 w1 yields_range⟩
theorem is_rng2 (hm : X.mg "range" = none) (ha : EA X ms [a, b] fa) (hg : Gl X "range" := by rfl) (hs : starEach [a, b] X.env = [(false, eval a X.env), (false, eval b X.env)] := by rfl) (hs2 : starEach [b] X.env = [(false, eval b X.env)] := by rfl) : ItS X tg (.Call (.Name "range" p) [a, b] [] pos) (iRng rng2 fa) := by
  obtain ⟨t, p1, q1⟩ := ha.ex
  refine ⟨_, pi_range2 hg hm p1 hs hs2, fun W σ H ρ S ds S' R w er hf k => ?_⟩
  obtain ⟨d, S1, h1, hf⟩ := M.bind_eq hf
  obtain ⟨h2, rfl⟩ := M.of_eq hf
  obtain ⟨i, j, rfl, c, rfl⟩ := rng2_eq h2
  refine q1 W σ H ρ S _ S1 _ w er h1 fun vs H1 k1 w1 r1 => ?_
  obtain ⟨v, u, rfl, r, r'⟩ := r1.i.two
  exact ⟨i, j, by rw [r.int, r'.int], c, k _ H1 k1 w1 yields_range⟩
def iSh (f : Ev → M (List D)) : Ev → M (List D) := fun ρ => f ρ >>= fun ds => M.of (short ds)
theorem ItS.c (h : ItS X tg e fa) : ItC X tg e (iSh fa) := by
  obtain ⟨t, p1, q1⟩ := h.ex
  refine ⟨t, p1, fun W σ H ρ S ds S' R w er hf k => ?_⟩
  obtain ⟨d, S1, h1, hf⟩ := M.bind_eq hf
  obtain ⟨h2, rfl⟩ := M.of_eq hf
  unfold short at h2
  split at h2
  · rename_i c
    cases h2
    refine q1 W σ H ρ S ds S1 _ w er h1 fun J H1 k1 w1 y => k J H1 k1 w1 c ⟨fun i W2 H2 S2 hi r => y.go i W2 H2 S2 hi r.s, fun W2 H2 S2 r => y.stop W2 H2 S2 r.s, fun i d W2 H2 S2 x H3 e r => y.yld i d W2 H2 S2 x H3 e r.s⟩
  · cases h2
end

/-! ### comprehensions -/
/-- the least readings of functions -/
def tE (f : Ev → M D) : TE := fun σ H Q => ∃ (W : Wd) (ρ : Ev) (S : Src) (d : D) (S' : Src), WRel W H S ∧ EnvRel W H σ ρ ∧ f ρ S = some (d, S') ∧ ∀ v H', Keep W H H' → WRel W H' S' → Rep W.no W.sa H' v d → Q v H'
theorem tE_v (f : Ev → M D) : TEv (tE f) f := fun W σ H ρ S d S' Q w er hf k => ⟨W, ρ, S, d, S', w, er, hf, k⟩
theorem EE.max {X : Cx} {e : Expr} {f : Ev → M D} (h : EE X e f) : PE X e (tE f) := by
  obtain ⟨t, p, q⟩ := h.ex
  exact ⟨fun pins s σ H Q I ⟨W, ρ, S, d, S', w, er, hf, k⟩ => p.run pins s σ H Q I (q W σ H ρ S d S' Q w er hf k)⟩
def tT (f : Ev → M Bool) : TT := fun σ H Q => ∃ (W : Wd) (ρ : Ev) (S : Src) (d : Bool) (S' : Src), WRel W H S ∧ EnvRel W H σ ρ ∧ f ρ S = some (d, S') ∧ ∀ H', Keep W H H' → WRel W H' S' → Q d H'
theorem tT_v (f : Ev → M Bool) : TBv (tT f) f := fun W σ H ρ S d S' Q w er hf k => ⟨W, ρ, S, d, S', w, er, hf, k⟩
def tG (is : List Nat) (g : D → Ev → Option Ev) : TG := fun v σ H Q => ∃ (W : Wd) (S : Src) (d : D) (ρ ρ' : Ev), WRel W H S ∧ EnvRel W H σ ρ ∧ Rep W.no W.sa H v d ∧ g d ρ = some ρ' ∧ ∀ σ', EnvRel W H σ' ρ' → wipe σ' is = wipe σ is → Q σ' H
theorem tG_v (is : List Nat) (g : D → Ev → Option Ev) : TGv is (tG is g) g := fun W H S v d σ ρ ρ' Q w er r h k => ⟨W, S, d, ρ, ρ', w, er, r, h, k⟩
theorem EG.max {X : Cx} {tg : Expr} {is : List Nat} {g : D → Ev → Option Ev} (h : EG X tg is g) : PG X tg (tG is g) := by
  obtain ⟨t, p, q⟩ := h.ex
  exact ⟨fun pins s σ H v u Q I r ⟨W, S, d, ρ, ρ', w, er, rr, hg, k⟩ => p.run pins s σ H v u Q I r (q W H S v d σ ρ ρ' Q w er rr hg k)⟩
def compL (g : D → Ev → Option Ev) (ft : Ev → M Bool) (fe : Ev → M D) : List D → Ev → M (List D)
  | [], _ => pure []
  | d :: ds, ρ => M.of (g d ρ) >>= fun ρ1 => ft ρ1 >>= fun b => if b = true then fe ρ1 >>= fun y => compL g ft fe ds ρ >>= fun ys => pure (y :: ys) else compL g ft fe ds ρ
def eLc (vs : List Nat) (fi : Ev → M (List D)) (g : D → Ev → Option Ev) (ft : Ev → M Bool) (fe : Ev → M D) : Ev → M D := fun ρ => fi ρ >>= fun ds => compL g ft fe ds (wipeE ρ vs) >>= fun ys => pure (.lst ys)
def bYes : Ev → M Bool := fun _ => pure true
structure ETs (X : Cx) (ifs : List Expr) (f : Ev → M Bool) : Prop where ex : ∃ t, PTs X ifs t ∧ TBv t f
section
variable {X : Cx} {c : Expr} {f : Ev → M Bool}
theorem ETs.max {ifs : List Expr} (h : ETs X ifs f) : PTs X ifs (tT f) := by
  obtain ⟨t, p, q⟩ := h.ex
  exact ⟨fun pins s σ H Q I ⟨W, ρ, S, d, S', w, er, hf, k⟩ => p.run pins s σ H Q I (q W σ H ρ S d S' Q w er hf k)⟩
theorem ets_nil : ETs X [] bYes := ⟨_, pts_nil, fun W σ H ρ S b S' Q w er hf k => by
  obtain ⟨rfl, rfl⟩ := M.pure_eq hf
  exact k H (.refl _ _) w⟩
theorem ets_one (h : EB X c f) : ETs X [c] f := by
  obtain ⟨t, p, q⟩ := h.ex
  exact ⟨_, pts_one p, q⟩
end
/-- a new object that nobody else knows -/
def TNv (t : TE) (f : Ev → M D) : Prop := ∀ (W : Wd) (σ : St) (H : Hp) (ρ : Ev) (S : Src) (d : D) (S' : Src) (Q : VK), WRel W H S → EnvRel W H σ ρ → f ρ S = some (d, S') →
  (∀ p H', H p = none → Keep W H H' → WRel (W.add p) H' S' → Top (W.add p) H' p d → Q (.ref p) H') → t σ H Q
structure EN (X : Cx) (e : Expr) (f : Ev → M D) : Prop where ex : ∃ t, PE X e t ∧ TNv t f
section
variable {W : Wd} {H H' : Hp} {S S' : Src} {p : Addr} {d : D} {t : TE} {f : Ev → M D} {X : Cx} {e : Expr}
theorem Top.rep {N : Addr → Prop} (h : Top W H p d) (hn : ¬ N p) (hN : ∀ a, N a → W.no a) : Rep N W.sa H (.ref p) d := by
  cases d with
  | lst ds => obtain ⟨vs, h, z, r⟩ := h; exact .lst h hn z (r.weakN hN)
  | dct b kds =>
    cases b with
    | false => obtain ⟨vs, h, z, r⟩ := h; exact .dK h hn z (r.imp (fun _ _ e => e) fun a o n e => ⟨e, fun q => n (hN a q)⟩)
    | true => obtain ⟨vs, h, z, r⟩ := h; exact .dT h hn z (r.imp (fun _ _ e => e) fun a o n e => ⟨e, fun q => n (hN a q)⟩)
  | _ => exact h.elim
theorem WRel.unadd (w : WRel (W.add p) H S) : WRel W H S := ⟨w.hs, w.hc, fun a h => w.mu a (h.elim .inl fun h => .inr (.inl h)), fun a h => w.ne a (h.elim .inl fun h => .inr (.inl h)), fun a h => w.ap a (.inl h), fun a h => w.ml a (.inl h)⟩
theorem TNv.ee (h : TNv t f) : TEv t f := fun W σ H ρ S d S' Q w er hf k => h W σ H ρ S d S' Q w er hf fun p H' hp k1 w1 t1 => k _ H' k1 w1.unadd (t1.rep (new_no w hp) no_add)
theorem EN.ee (h : EN X e f) : EE X e f := by
  obtain ⟨t, p, q⟩ := h.ex
  exact ⟨t, p, q.ee⟩
end
section
variable {X : Cx} {elt tg iter : Expr} {ifs : List Expr} {scope : Scope} {own : List (Str × Nat)} {pos : Pos} {fi : Ev → M (List D)} {g : D → Ev → Option Ev} {ft : Ev → M Bool} {fe : Ev → M D} {wi : TI} {tgt : TG} {tt : TT} {te : TE} {vs : List Nat}
theorem TNv.lc (hi : TIc wi fi) (hg : TGv vs tgt g) (ht : TBv tt ft) (he : TEv te fe) : TNv (tLc wi tgt tt te vs) (eLc vs fi g ft fe) := by
  intro W σ H ρ S d S' Q w er hf k
  obtain ⟨ds, S1, h1, hf⟩ := M.bind_eq hf
  obtain ⟨ys, S2, h2, hf⟩ := M.bind_eq hf
  obtain ⟨rfl, rfl⟩ := M.pure_eq hf
  refine hi W σ H ρ S ds S1 _ w er h1 fun J H1 k1 w1 hz y => ?_
  intro D hD
  have hD0 : H D = none := by
    cases q : H D with
    | none => rfl
    | some o =>
      by_cases e1 : D = W.sa
      · rw [e1, w1.hs] at hD; cases hD
      · by_cases e2 : D = W.ca
        · rw [e2, w1.hc] at hD; cases hD
        · rw [k1 D o e1 e2 q] at hD; cases hD
  have wD : WRel (W.add D) (upd H1 D (.lst [])) S1 := w1.own hD trivial
  have erD : EnvRel (W.add D) (upd H1 D (.lst [])) σ ρ := (er.keep w k1).step w1 (KeepC.add (keep_laid hD) hD)
  refine lc_it (Qd := fun H => Q (.ref D) H) y.walk (fun i H2 => ∃ (S3 : Src) (us : List V) (zs rest : List EV.D), KeepC W H1 (W.add D) H2 ∧ WRel (W.add D) H2 S3 ∧ H2 D = some (.lst us) ∧ us.length ≤ i ∧ RepAll (W.add D).no (W.add D).sa H2 us zs ∧
    compL g ft fe (ds.drop i) (wipeE ρ vs) S3 = some (rest, S2) ∧ zs ++ rest = ys) ⟨S1, [], [], ys, .add (keep_laid hD) hD, wD, upd_same, Nat.le_refl _, .nil, h2, rfl⟩ ?_ ?_ ?_
  · rintro i H2 hi ⟨S3, us, zs, rest, kc, w2, _⟩
    exact ⟨W.add D, S3, kc, w2⟩
  · rintro i x H2 H3 hi ⟨S3, us, zs, rest, kc, w2, hH, hl, ra, hr, hy⟩ hY
    have hdd : ds.drop i = ds[i] :: ds.drop (i + 1) := List.drop_eq_getElem_cons hi
    rw [hdd] at hr
    obtain ⟨ρ1, S4, e1, hr⟩ := M.bind_eq hr
    obtain ⟨e0, rfl⟩ := M.of_eq e1
    obtain ⟨b, S5, e2, hr⟩ := M.bind_eq hr
    obtain ⟨k3, w3, r3⟩ := hY ds[i] (W.add D) S3 (List.getElem?_eq_getElem hi) kc w2
    have er2 : EnvRel (W.add D) H3 (wipe σ vs) (wipeE ρ vs) := ((er.keep w k1).step w1 kc).wipe vs |>.keep w2 k3
    have nD := w2.ne D (.inr (.inr rfl))
    have kc3 : KeepC W H1 (W.add D) H3 := kc.trans w2 w1 (.of k3)
    refine hg (W.add D) H3 S3 x ds[i] (wipe σ vs) (wipeE ρ vs) ρ1 _ w3 er2 r3 e0 fun σ2 er3 hw => ⟨hw.trans (wipe_wipe σ vs), ?_⟩
    refine ht (W.add D) σ2 H3 ρ1 S3 b S5 _ w3 er3 e2 fun H4 k4 w4 => ?_
    have kc4 : KeepC W H1 (W.add D) H4 := kc3.trans w3 w1 (.of k4)
    cases b with
    | false =>
      rw [if_neg Bool.false_ne_true] at hr ⊢
      exact ⟨S5, us, zs, rest, kc4, w4, k4 D _ nD.1 nD.2 (k3 D _ nD.1 nD.2 hH), by omega, (ra.keep w2 k3).keep w3 k4, hr, hy⟩
    | true =>
      rw [if_pos rfl] at hr ⊢
      obtain ⟨z, S6, e3, hr⟩ := M.bind_eq hr
      obtain ⟨rest', S7, e4, hr⟩ := M.bind_eq hr
      obtain ⟨rfl, rfl⟩ := M.pure_eq hr
      refine he (W.add D) σ2 H4 ρ1 S5 z S6 _ w4 (er3.keep w3 k4) e3 fun v H5 k5 w5 r5 => ?_
      have hD5 : H5 D = some (.lst us) := k5 D _ nD.1 nD.2 (k4 D _ nD.1 nD.2 (k3 D _ nD.1 nD.2 hH))
      have kc5 : KeepC W H1 (W.add D) H5 := kc4.trans w4 w1 (.of k5)
      have ra5 := ((ra.keep w2 k3).keep w3 k4).keep w4 k5
      have ks : KeepS (W.add D) H5 (W.add D) (upd H5 D (.lst (us ++ [v]))) := .wrote (.inr rfl)
      refine ⟨us, hD5, by omega, S6, us ++ [v], zs ++ [z], rest', ⟨rfl, rfl, rfl, fun _ h => .inl h, kc5.ln, fun a o n1 n2 h => ?_⟩, w5.wrote (.inr rfl) trivial, upd_same, by rw [List.length_append]; simp; omega, (ra5.append (.cons r5 .nil)).step w5 ks, e4, by rw [List.append_assoc]; exact hy⟩
      have : a ≠ D := by rintro rfl; rw [hD] at h; cases h
      rw [upd_ne this]
      exact kc5.k a o n1 n2 h
  · rintro H2 ⟨S3, us, zs, rest, kc, w2, hH, hl, ra, hr, hy⟩
    rw [List.drop_length] at hr
    obtain ⟨rfl, rfl⟩ := M.pure_eq hr
    rw [List.append_nil] at hy
    subst hy
    exact k D H2 hD0 (k1.trans kc.k) w2 ⟨us, hH, by omega, ra⟩
theorem en_lc (hN : X.N.Nodup) (hc : X.calm = true) (ok : blkC X.N X.env.scope scope own = true) (hi : ItC X tg iter fi)
    (hg : ∀ (s : Shared) (H : Hp) (C : Addr) (cl : List (Str × Addr)) (fp : List Addr), EG (X.blk s H scope (compEnvC scope cl C X.env) fp) tg (own.map (·.2)) g)
    (ht : ∀ (s : Shared) (H : Hp) (C : Addr) (cl : List (Str × Addr)) (fp : List Addr), ETs (X.blk s H scope (compEnvC scope cl C X.env) fp) ifs ft)
    (he : ∀ (s : Shared) (H : Hp) (C : Addr) (cl : List (Str × Addr)) (fp : List Addr), EE (X.blk s H scope (compEnvC scope cl C X.env) fp) elt fe)
    (hs : ∀ x, foldedSetIterable iter X.env x = pure x := by intro _; rfl) : EN X (.ListComp elt [⟨tg, iter, ifs, 0⟩] scope pos) (eLc (own.map (·.2)) fi g ft fe) := by
  obtain ⟨wi, p1, q1⟩ := hi.ex
  exact ⟨_, pe_lc hc hN p1 (blkOk_by ok) (fun s H C cl fp => (hg s H C cl fp).max) (fun s H C cl fp => (ht s H C cl fp).max) (fun s H C cl fp => (he s H C cl fp).max) hs, TNv.lc q1 (tG_v _ _) (tT_v _) (tE_v _)⟩
end
end L2.EV

/-! EV, part E: calls of the text's own defs, statements, a def as a whole. -/
namespace L2.EV
open PySem PySem.Spec PyProof.Rows

/-! ### calls -/
def spD (ms : List Bool) (m : List D → M D) : Sp := fun vs H Q _ => ∃ (W : Wd) (S : Src) (ds : List D) (d : D) (S' : Src), (∀ a, ¬ W.L a) ∧ WRel W H S ∧ Args W H ms vs ds ∧ m ds S = some (d, S') ∧
  ∀ v H', Keep W H H' → WRel W H' S' → Rep W.no W.sa H' v d → Q v H'
structure FnV (P : Program) (w : World) (K : PySem.W.Frag) (mg : Str → Option Value) (base : Heap) (k : Nat) (x : Str) (ms : List Bool) (m : List D → M D) : Prop where
  ex : ∃ (fa : Addr) (fd : FuncData) (ps : List Str), mg x = some (.ref fa) ∧ PySem.W.keepIn K (.ref fa) = true ∧ Binds K fd ps [] ∧ FnOk P w K mg base CX0 k fa fd ps (spD ms m)
theorem FnV.mono {P : Program} {w : World} {K : PySem.W.Frag} {mg : Str → Option Value} {base : Heap} {j k : Nat} {x : Str} {ms : List Bool} {m : List D → M D} (F : FnV P w K mg base j x ms m) (h : j ≤ k) : FnV P w K mg base k x ms m := by
  obtain ⟨fa, fd, ps, h1, h2, h3, h4⟩ := F.ex
  exact ⟨fa, fd, ps, h1, h2, h3, h4.mono h⟩
def eCallU (m : List D → M D) (f : Ev → M (List D)) : Ev → M D := fun ρ => f ρ >>= m
/-- the callee's world -/
def Wd.low (W : Wd) : Wd := { W with C := fun a => W.C a ∨ W.L a, L := fun _ => False }
section
variable {W : Wd} {H H' : Hp} {S S' : Src} {v : V} {d : D}
theorem low_no : ∀ a, W.low.no a ↔ W.no a := fun a => by
  constructor
  · rintro (h | h | h | h)
    · rcases h with h | h
      · exact .inl h
      · exact .inr (.inl h)
    · exact h.elim
    · exact .inr (.inr (.inl h))
    · exact .inr (.inr (.inr h))
  · rintro (h | h | h | h)
    · exact .inl (.inl h)
    · exact .inl (.inr h)
    · exact .inr (.inr (.inl h))
    · exact .inr (.inr (.inr h))
theorem low_eq : W.low.no = W.no := funext fun a => propext (low_no a)
theorem WRel.low (w : WRel W H S) : WRel W.low H S := ⟨w.hs, w.hc, fun a h => w.mu a (h.elim id fun h => h.elim), fun a h => w.ne a (h.elim id fun h => h.elim), fun a h => h.elim, fun a h => h.elim⟩
theorem WRel.up (w : WRel W.low H' S') (w0 : WRel W H S) (k : Keep W H H') : WRel W H' S' := ⟨w.hs, w.hc, fun a h => w.mu a (.inl h), fun a h => w.ne a (.inl h), w0.ap, fun a h => by
  have n := w0.ne a (.inr h)
  have m := w0.ml a h
  cases e : H a with
  | none => rw [e] at m; exact m.elim
  | some o => rw [k a o n.1 n.2 e]; rw [e] at m; exact m⟩
theorem Top.low {a : Addr} (t : Top W H a d) : Top W.low H a d := by
  cases d with
  | lst ds => obtain ⟨vs, h, z, r⟩ := t; exact ⟨vs, h, z, by rw [low_eq]; exact r⟩
  | dct b kds =>
    cases b with
    | false => obtain ⟨vs, h, z, r⟩ := t; exact ⟨vs, h, z, by rw [low_eq]; exact r⟩
    | true => obtain ⟨vs, h, z, r⟩ := t; exact ⟨vs, h, z, by rw [low_eq]; exact r⟩
  | _ => exact t.elim
theorem Args.low {ms : List Bool} {vs : List V} {ds : List D} (a : Args W H ms vs ds) : Args W.low H ms vs ds := by
  induction a with
  | nil => exact .nil
  | s r _ ih => exact .s (by rw [low_eq]; exact r) ih
  | b r _ ih =>
    refine .b ?_ ih
    rcases r with r | ⟨a, e, h1, h2, t⟩
    · exact .inl (by rw [low_eq]; exact r)
    · exact .inr ⟨a, e, h1, h2, t.low⟩
end
theorem TEv.callU {ms : List Bool} {m : List D → M D} {t : TA} {f : Ev → M (List D)} (ha : TAv ms t f) : TEv (tCall (spD ms m) [] E0 t) (eCallU m f) := by
  intro W σ H ρ S d S' Q w er hf k
  obtain ⟨ds, S1, h1, hf⟩ := M.bind_eq hf
  refine ha W σ H ρ S ds S1 _ w er h1 fun vs H1 k1 w1 r1 => ?_
  refine ⟨W.low, S1, ds, d, S', fun _ h => h, w1.low, by rw [List.append_nil]; exact r1.low, hf, fun v H' k2 w2 r2 => ?_⟩
  exact k v H' (k1.trans k2) (w2.up w1 k2) (by rw [low_eq] at r2; exact r2)
section
variable {X : Cx} {x : Str} {p pos : Pos} {e : Expr} {es : List Expr} {ms : List Bool} {m : List D → M D} {f : Ev → M (List D)} {k : Nat}
theorem ee_call (F : FnV X.prog X.w X.K X.mg X.base k x ms m) (hr : Room k X.A) (ha : EA X ms (e :: es) f) (hg : Gl X x := by rfl) (hdb : (x == ("__debug__" : Str)) = false := by decide)
    (he : starEach (e :: es) X.env = (false, eval e X.env) :: starEach es X.env := by rfl) (hpl : (backTo pos (starEach es X.env)).any (·.1) = false := by rfl) : EE X (.Call (.Name x p) (e :: es) [] pos) (eCallU m f) := by
  obtain ⟨fa, fd, ps, h1, h2, h3, h4⟩ := F.ex
  obtain ⟨t, p1, q1⟩ := ha.ex
  exact ⟨_, pe_call h4 hr hg h1 h2 h3 .nil pass0 p1 hdb he hpl, TEv.callU q1⟩
theorem ee_call0 (F : FnV X.prog X.w X.K X.mg X.base k x [] m) (hr : Room k X.A) (hg : Gl X x := by rfl) (hdb : (x == ("__debug__" : Str)) = false := by decide) : EE X (.Call (.Name x p) [] [] pos) (eCallU m aNil) := by
  obtain ⟨fa, fd, ps, h1, h2, h3, h4⟩ := F.ex
  refine ⟨_, pe_call0 h4 hr hg h1 h2 h3 .nil pass0 hdb, TEv.callU (ms := []) fun W σ H ρ S ds S' Q w er hf k => ?_⟩
  obtain ⟨rfl, rfl⟩ := M.pure_eq hf
  exact k _ H (.refl _ _) w .nil
end

/-! ### statements -/
inductive Out where
  | nx (ρ : Ev) | rt (d : D) | bk (ρ : Ev) | ct (ρ : Ev)
def OutP (W : Wd) (H : Hp) (S : Src) (E : Ends) : Out → Prop
  | .nx ρ => ∀ W' σ' H', KeepS W H W' H' → WRel W' H' S → EnvRel W' H' σ' ρ → E.nx σ' H'
  | .bk ρ => ∀ W' σ' H', KeepS W H W' H' → WRel W' H' S → EnvRel W' H' σ' ρ → E.bk σ' H'
  | .ct ρ => ∀ W' σ' H', KeepS W H W' H' → WRel W' H' S → EnvRel W' H' σ' ρ → E.ct σ' H'
  | .rt d => ∀ W' v H', KeepS W H W' H' → WRel W' H' S → Rep W'.no W'.sa H' v d → E.rt v H'
theorem OutP.step {W W1 : Wd} {H H1 : Hp} {S S0 S1 : Src} {E : Ends} {o : Out} (w : WRel W H S0) (w1 : WRel W1 H1 S1) (k : KeepS W H W1 H1) (h : OutP W H S E o) : OutP W1 H1 S E o := by
  cases o with
  | nx ρ => exact fun W' σ' H' k' w' e => h W' σ' H' (k.trans w1 w k') w' e
  | bk ρ => exact fun W' σ' H' k' w' e => h W' σ' H' (k.trans w1 w k') w' e
  | ct ρ => exact fun W' σ' H' k' w' e => h W' σ' H' (k.trans w1 w k') w' e
  | rt d => exact fun W' v H' k' w' e => h W' v H' (k.trans w1 w k') w' e
def TSv (t : TS) (f : Ev → M Out) : Prop := ∀ (W : Wd) (σ : St) (H : Hp) (ρ : Ev) (S : Src) (o : Out) (S' : Src) (E : Ends), WRel W H S → EnvRel W H σ ρ → f ρ S = some (o, S') → OutP W H S' E o → t E σ H
structure SS (X : Cx) (st : Stmt) (f : Ev → M Out) : Prop where ex : ∃ t, PS X st t ∧ TSv t f
structure SSs (X : Cx) (sts : List Stmt) (f : Ev → M Out) : Prop where ex : ∃ t, PSs X sts t ∧ TSv t f
def sNil : Ev → M Out := fun ρ => pure (.nx ρ)
def andThen (g : Ev → M Out) : Out → M Out
  | .nx ρ => g ρ
  | o => pure o
def sSeq (f g : Ev → M Out) : Ev → M Out := fun ρ => f ρ >>= andThen g
section
variable {X : Cx} {st : Stmt} {sts : List Stmt} {f g : Ev → M Out} {pos : Pos} {e : Expr} {fe : Ev → M D} {t : TS} {te : TE}
theorem sss_nil : SSs X [] sNil := ⟨_, pss_nil, fun W σ H ρ S o S' E w er hf k => by
  obtain ⟨rfl, rfl⟩ := M.pure_eq hf
  exact k W σ H .refl w er⟩
theorem TSv.seq {t u : TS} (h1 : TSv t f) (h2 : TSv u g) : TSv (tSeq t u) (sSeq f g) := by
  intro W σ H ρ S o S' E w er hf k
  obtain ⟨o1, S1, e1, hf⟩ := M.bind_eq hf
  refine h1 W σ H ρ S o1 S1 _ w er e1 ?_
  cases o1 with
  | nx ρ1 => exact fun W' σ' H' k' w' er' => h2 W' σ' H' ρ1 S1 o S' E w' er' hf (k.step w w' k')
  | rt d => obtain ⟨rfl, rfl⟩ := M.pure_eq hf; exact k
  | bk d => obtain ⟨rfl, rfl⟩ := M.pure_eq hf; exact k
  | ct d => obtain ⟨rfl, rfl⟩ := M.pure_eq hf; exact k
theorem sss_cons (h1 : SS X st f) (h2 : SSs X sts g) : SSs X (st :: sts) (sSeq f g) := by
  obtain ⟨t, p1, q1⟩ := h1.ex
  obtain ⟨u, p2, q2⟩ := h2.ex
  exact ⟨_, pss_cons p1 p2, q1.seq q2⟩
theorem sss_one (h1 : SS X st f) : SSs X [st] f := by
  obtain ⟨t, p1, q1⟩ := h1.ex
  exact ⟨_, pss_one p1, q1⟩

/-! assignments -/
def sSet (i : Nat) (f : Ev → M D) : Ev → M Out := fun ρ => f ρ >>= fun d => pure (.nx (ρ.set i (some (.s d))))
def sOwn (i : Nat) (f : Ev → M D) : Ev → M Out := fun ρ => f ρ >>= fun d => pure (.nx (ρ.set i (some (.o d))))
theorem ss_set_of {i : Nat} (h : PS X st (tAsg te (gName i))) (q : TEv te fe) : SS X st (sSet i fe) := by
  refine ⟨_, h, fun W σ H ρ S o S' E w er hf k => ?_⟩
  obtain ⟨d, S1, e1, hf⟩ := M.bind_eq hf
  obtain ⟨rfl, rfl⟩ := M.pure_eq hf
  refine q W σ H ρ S d S1 _ w er e1 fun v H1 k1 w1 r1 => ?_
  exact k W _ H1 (.of k1) w1 ((er.keep w k1).sets r1)
theorem ss_own_of {i : Nat} (h : PS X st (tAsg te (gName i))) (q : TNv te fe) : SS X st (sOwn i fe) := by
  refine ⟨_, h, fun W σ H ρ S o S' E w er hf k => ?_⟩
  obtain ⟨d, S1, e1, hf⟩ := M.bind_eq hf
  obtain ⟨rfl, rfl⟩ := M.pure_eq hf
  refine q W σ H ρ S d S1 _ w er e1 fun p H1 hp k1 w1 t1 => ?_
  have kc : KeepC W H (W.add p) H1 := .add k1 hp
  refine k (W.add p) _ H1 kc.s w1 (((er.step w kc)).setc (c := .o d) ⟨p, rfl, .inr rfl, t1⟩ fun d' a e1 e2 j d'' hj h1 h2 => ?_)
  cases e2
  obtain ⟨v, h3, a, e3, l, _⟩ := er.get j _ h1
  rw [h2] at h3; cases h3
  cases e3
  have m := w.mu p (.inr l)
  rw [hp] at m; exact m
theorem ss_set (i : Nat) {x : Str} {px : Pos} (hN : X.N.Nodup) (he : EE X e fe) (hi : X.N[i]? = some x := by rfl) (hx : Loc X.env.scope x := by first | exact Or.inl rfl | exact Or.inr rfl) (hs : swapsWith e (some (.Name x px)) pos.line X.env = pure false := by rfl)
    (hf : X.fn x = true ∨ X.env.scope.names.lookup x = some .local := by first | exact .inl rfl | exact .inr rfl | assumption) : SS X (.Assign [.Name x px] e pos) (sSet i fe) := by
  obtain ⟨t, p, q⟩ := he.ex
  exact ss_set_of (ps_set hN hi hx p hs hf) q
theorem ss_own (i : Nat) {x : Str} {px : Pos} (hN : X.N.Nodup) (he : EN X e fe) (hi : X.N[i]? = some x := by rfl) (hx : Loc X.env.scope x := by first | exact Or.inl rfl | exact Or.inr rfl) (hs : swapsWith e (some (.Name x px)) pos.line X.env = pure false := by rfl)
    (hf : X.fn x = true ∨ X.env.scope.names.lookup x = some .local := by first | exact .inl rfl | exact .inr rfl | assumption) : SS X (.Assign [.Name x px] e pos) (sOwn i fe) := by
  obtain ⟨t, p, q⟩ := he.ex
  exact ss_own_of (ps_set hN hi hx p hs hf) q
end
section
variable {X : Cx} {elt tg iter : Expr} {ifs : List Expr} {scope : Scope} {own : List (Str × Nat)} {pos spos : Pos} {fi : Ev → M (List D)} {g : D → Ev → Option Ev} {ft : Ev → M Bool} {fe : Ev → M D}
/-- y = [..] on one line, y a local: the comprehension's own way -/
theorem ss_lc {i : Nat} {y : Str} {py : Pos} {b : Bool} (hN : X.N.Nodup) (hc : X.calm = true) (ok : blkC X.N X.env.scope scope own = true) (hi : ItC X tg iter fi)
    (hg : ∀ (s : Shared) (H : Hp) (C : Addr) (cl : List (Str × Addr)) (fp : List Addr), EG (X.blk s H scope (compEnvC scope cl C X.env) fp) tg (own.map (·.2)) g)
    (ht : ∀ (s : Shared) (H : Hp) (C : Addr) (cl : List (Str × Addr)) (fp : List Addr), ETs (X.blk s H scope (compEnvC scope cl C X.env) fp) ifs ft)
    (he : ∀ (s : Shared) (H : Hp) (C : Addr) (cl : List (Str × Addr)) (fp : List Addr), EE (X.blk s H scope (compEnvC scope cl C X.env) fp) elt fe)
    (hb : b = true) (hsw : swapsWith (.ListComp elt [⟨tg, iter, ifs, 0⟩] scope pos) (some (.Name y py)) spos.line X.env = pure true)
    (hy : X.N[i]? = some y := by rfl) (hyl : X.env.scope.names.lookup y = some .local := by rfl) (hs : ∀ x, foldedSetIterable iter X.env x = pure x := by intro _; rfl) :
    PS X (.Assign [.Name y py] (.ListComp elt [⟨tg, iter, ifs, 0⟩] scope pos) spos) (tAsg (tE (eLc (own.map (·.2)) fi g ft fe)) (gName i)) ∧ SS X (.Assign [.Name y py] (.ListComp elt [⟨tg, iter, ifs, 0⟩] scope pos) spos) (sSet i (eLc (own.map (·.2)) fi g ft fe)) ∧
      SS X (.Assign [.Name y py] (.ListComp elt [⟨tg, iter, ifs, 0⟩] scope pos) spos) (sOwn i (eLc (own.map (·.2)) fi g ft fe)) := by
  obtain ⟨wi, p1, q1⟩ := hi.ex
  have h := ps_setLc hc hN hy hyl hsw p1 (blkOk_by ok) (fun s H C cl fp => (hg s H C cl fp).max) (fun s H C cl fp => (ht s H C cl fp).max) (fun s H C cl fp => (he s H C cl fp).max) hs
  have q : TNv _ (eLc (own.map (·.2)) fi g ft fe) := TNv.lc q1 (tG_v _ _) (tT_v _) (tE_v _)
  exact ⟨⟨fun pins s σ H D I ⟨W, ρ, S, d, S', w, er, hf, k⟩ => h.run pins s σ H D I (q.ee W σ H ρ S d S' _ w er hf k)⟩, ss_set_of h q.ee, ss_own_of h q⟩
end

section
variable {X : Cx} {st : Stmt} {sts a b : List Stmt} {f g : Ev → M Out} {pos : Pos} {e c : Expr} {fe : Ev → M D} {fc : Ev → M Bool} {t : TS} {te : TE}
/-! return, pass, break, continue, an expression -/
def sRet (f : Ev → M D) : Ev → M Out := fun ρ => f ρ >>= fun d => pure (.rt d)
theorem ss_ret (he : EE X e fe) : SS X (.Return (some e) pos) (sRet fe) := by
  obtain ⟨t, p, q⟩ := he.ex
  refine ⟨_, ps_ret p, fun W σ H ρ S o S' E w er hf k => ?_⟩
  obtain ⟨d, S1, e1, hf⟩ := M.bind_eq hf
  obtain ⟨rfl, rfl⟩ := M.pure_eq hf
  exact q W σ H ρ S d S1 _ w er e1 fun v H1 k1 w1 r1 => k W v H1 (.of k1) w1 r1
def sRetN : Ev → M Out := fun _ => pure (.rt .non)
theorem ss_retN : SS X (.Return none pos) sRetN := ⟨_, ps_retN, fun W σ H ρ S o S' E w er hf k => by
  obtain ⟨rfl, rfl⟩ := M.pure_eq hf
  exact k W _ H .refl w .non⟩
/-- what is owned here is handed back -/
def sRetO (i : Nat) : Ev → M Out := fun ρ => M.of (match ρ[i]? with
  | some (some (.o d)) => some (.rt d)
  | _ => none)
theorem del_no {W : Wd} {p : Addr} : ∀ a, (W.del p).no a → W.no a := fun a h => by
  rcases h with h | h | h | h
  · exact .inl h
  · exact .inr (.inl h.1)
  · exact .inr (.inr (.inl h))
  · exact .inr (.inr (.inr h))
theorem WRel.del {W : Wd} {H : Hp} {S : Src} (w : WRel W H S) (p : Addr) : WRel (W.del p) H S :=
  ⟨w.hs, w.hc, fun a h => w.mu a (h.elim .inl fun h => .inr h.1), fun a h => w.ne a (h.elim .inl fun h => .inr h.1), fun a h => w.ap a h.1, fun a h => w.ml a h.1⟩
theorem KeepS.del {W : Wd} {H : Hp} (p : Addr) : KeepS W H (W.del p) H := ⟨rfl, rfl, rfl, fun a h => .inl h.1, fun _ _ _ _ _ h => h⟩
theorem del_not {W : Wd} {H : Hp} {S : Src} (w : WRel W H S) {p : Addr} (l : W.L p) : ¬ (W.del p).no p := by
  have n := w.ne p (.inr l)
  rintro (h | h | h | h)
  · exact w.ap p l h
  · exact h.2 rfl
  · exact n.1 h
  · exact n.2 h
theorem ss_retO (i : Nat) {x : Str} {px : Pos} (hN : X.N[i]? = some x := by rfl) (hv : Vis X.env.scope x := by first | exact Or.inl rfl | exact Or.inr (Or.inl rfl) | exact Or.inr (Or.inr rfl)) (hd : (x == ("__debug__" : Str)) = false := by decide)
    (hcd : (x == ("__classdict__" : Str)) = false := by decide) : SS X (.Return (some (.Name x px)) pos) (sRetO i) := by
  refine ⟨_, ps_ret (pe_var hN hv hd hcd), fun W σ H ρ S o S' E w er hf k => ?_⟩
  obtain ⟨h1, rfl⟩ := M.of_eq hf
  cases q : ρ[i]? with
  | none => rw [q] at h1; cases h1
  | some o' =>
    cases o' with
    | none => rw [q] at h1; cases h1
    | some c =>
      cases c with
      | o d =>
        rw [q] at h1
        cases h1
        obtain ⟨v, h2, a, rfl, l, tp⟩ := er.get i _ q
        refine ⟨.ref a, h2, k (W.del a) _ H (.del a) (w.del a) ?_⟩
        exact tp.rep (del_not w l) del_no
      | s _ => rw [q] at h1; cases h1
      | b _ => rw [q] at h1; cases h1
theorem ss_pass : SS X (.Pass pos) sNil := ⟨_, ps_pass, fun W σ H ρ S o S' E w er hf k => by
  obtain ⟨rfl, rfl⟩ := M.pure_eq hf
  exact k W σ H .refl w er⟩
def sBreak : Ev → M Out := fun ρ => pure (.bk ρ)
def sCont : Ev → M Out := fun ρ => pure (.ct ρ)
theorem ss_break : SS X (.Break pos) sBreak := ⟨_, ps_break, fun W σ H ρ S o S' E w er hf k => by
  obtain ⟨rfl, rfl⟩ := M.pure_eq hf
  exact k W σ H .refl w er⟩
theorem ss_cont : SS X (.Continue pos) sCont := ⟨_, ps_continue, fun W σ H ρ S o S' E w er hf k => by
  obtain ⟨rfl, rfl⟩ := M.pure_eq hf
  exact k W σ H .refl w er⟩
def sDrop (f : Ev → M D) : Ev → M Out := fun ρ => f ρ >>= fun _ => pure (.nx ρ)
theorem ss_expr (he : EE X e fe) (hs : swapsWith e none pos.line X.env = pure false := by rfl) : SS X (.Expr e pos) (sDrop fe) := by
  obtain ⟨t, p, q⟩ := he.ex
  refine ⟨_, ps_expr p hs, fun W σ H ρ S o S' E w er hf k => ?_⟩
  obtain ⟨d, S1, e1, hf⟩ := M.bind_eq hf
  obtain ⟨rfl, rfl⟩ := M.pure_eq hf
  exact q W σ H ρ S d S1 _ w er e1 fun v H1 k1 w1 r1 => k W σ H1 (.of k1) w1 (er.keep w k1)
def sIf (c : Ev → M Bool) (f g : Ev → M Out) : Ev → M Out := fun ρ => c ρ >>= fun b => if b = true then f ρ else g ρ
theorem ss_if (hc : EB X c fc) (ha : SSs X a f) (hb : SSs X b g) : SS X (.If c a b pos) (sIf fc f g) := by
  obtain ⟨tc, p0, q0⟩ := hc.ex
  obtain ⟨t, p, q⟩ := ha.ex
  obtain ⟨u, p2, q2⟩ := hb.ex
  refine ⟨_, ps_if p0 p p2, fun W σ H ρ S o S' E w er hf k => ?_⟩
  obtain ⟨x, S1, e1, hf⟩ := M.bind_eq hf
  refine q0 W σ H ρ S x S1 _ w er e1 fun H1 k1 w1 => ?_
  cases x with
  | true =>
    rw [if_pos rfl] at hf ⊢
    exact q W σ H1 ρ S1 o S' E w1 (er.keep w k1) hf (k.step w w1 (.of k1))
  | false =>
    rw [if_neg Bool.false_ne_true] at hf ⊢
    exact q2 W σ H1 ρ S1 o S' E w1 (er.keep w k1) hf (k.step w w1 (.of k1))

/-! for -/
def forS (g : D → Ev → Option Ev) (fb : Ev → M Out) : List D → Ev → M Out
  | [], ρ => pure (.nx ρ)
  | d :: ds, ρ => M.of (g d ρ) >>= fun ρ1 => fb ρ1 >>= fun o => match o with
    | .nx ρ2 => forS g fb ds ρ2
    | .ct ρ2 => forS g fb ds ρ2
    | .bk ρ2 => pure (.nx ρ2)
    | .rt d => pure (.rt d)
def sFor (fi : Ev → M (List D)) (g : D → Ev → Option Ev) (fb : Ev → M Out) : Ev → M Out := fun ρ => fi ρ >>= fun ds => forS g fb ds ρ
theorem ss_for {tg iter : Expr} {body : List Stmt} {is : List Nat} {fi : Ev → M (List D)} {g : D → Ev → Option Ev} {fb : Ev → M Out} (hp : PassesOwn (model X.prog X.w) X.A X.env X.xe) (hc : X.calm = true) (hi : ItS X tg iter fi) (hg : EG X tg is g) (hb : SSs X body fb)
    (hs : ∀ x, foldedSetIterable iter X.env x = pure x := by intro _; rfl) : SS X (.For tg iter body [] pos) (sFor fi g fb) := by
  obtain ⟨wi, p1, q1⟩ := hi.ex
  obtain ⟨tgt, p2, q2⟩ := hg.ex
  obtain ⟨tb, p3, q3⟩ := hb.ex
  refine ⟨_, ps_for hp hc p1 p2 p3 hs, fun W σ H ρ S o S' E w er hf k => ?_⟩
  obtain ⟨ds, S1, e1, hf⟩ := M.bind_eq hf
  refine q1 W σ H ρ S ds S1 _ w er e1 fun J H1 k1 w1 y => ?_
  have k' : OutP W H1 S' E o := k.step w w1 (.of k1)
  refine for_it y.walk (fun i σ2 H2 => ∃ (W2 : Wd) (S2 : Src) (ρ2 : Ev), KeepS W H1 W2 H2 ∧ WRel W2 H2 S2 ∧ EnvRel W2 H2 σ2 ρ2 ∧ forS g fb (ds.drop i) ρ2 S2 = some (o, S')) ⟨W, S1, ρ, .refl, w1, er.keep w k1, hf⟩ ?_ ?_ ?_
  · rintro i σ2 H2 hi ⟨W2, S2, ρ2, ks, w2, _⟩
    exact ⟨W2, S2, ks, w2⟩
  · rintro i x σ2 H2 H3 hi ⟨W2, S2, ρ2, ks, w2, er2, hr⟩ hY
    have hdd : ds.drop i = ds[i] :: ds.drop (i + 1) := List.drop_eq_getElem_cons hi
    rw [hdd] at hr
    obtain ⟨ρ3, S3, e2, hr⟩ := M.bind_eq hr
    obtain ⟨e0, rfl⟩ := M.of_eq e2
    obtain ⟨o3, S4, e3, hr⟩ := M.bind_eq hr
    obtain ⟨k3, w3, r3⟩ := hY ds[i] W2 S2 (List.getElem?_eq_getElem hi) ks w2
    have ks3 : KeepS W H1 W2 H3 := ks.trans w2 w1 (.of k3)
    refine q2 W2 H3 S2 x ds[i] σ2 ρ2 ρ3 _ w3 (er2.keep w2 k3) r3 e0 fun σ3 er3 _ => ?_
    refine q3 W2 σ3 H3 ρ3 S2 o3 S4 _ w3 er3 e3 ?_
    cases o3 with
    | nx ρ4 => exact fun W4 σ4 H4 k4 w4 er4 => ⟨W4, S4, ρ4, ks3.trans w3 w1 k4, w4, er4, hr⟩
    | ct ρ4 => exact fun W4 σ4 H4 k4 w4 er4 => ⟨W4, S4, ρ4, ks3.trans w3 w1 k4, w4, er4, hr⟩
    | bk ρ4 =>
      obtain ⟨rfl, rfl⟩ := M.pure_eq hr
      exact fun W4 σ4 H4 k4 w4 er4 => k' W4 σ4 H4 (ks3.trans w3 w1 k4) w4 er4
    | rt d =>
      obtain ⟨rfl, rfl⟩ := M.pure_eq hr
      exact fun W4 v H4 k4 w4 r4 => k' W4 v H4 (ks3.trans w3 w1 k4) w4 r4
  · rintro σ2 H2 ⟨W2, S2, ρ2, ks, w2, er2, hr⟩
    rw [List.drop_length] at hr
    obtain ⟨rfl, rfl⟩ := M.pure_eq hr
    exact k' W2 σ2 H2 ks w2 er2

/-! while -/
def whileS (fc : Ev → M Bool) (fb : Ev → M Out) : Nat → Ev → M Out
  | 0, _ => M.fail
  | n + 1, ρ => fc ρ >>= fun b => if b = true then fb ρ >>= fun o => match o with
    | .nx ρ2 => whileS fc fb n ρ2
    | .ct ρ2 => whileS fc fb n ρ2
    | .bk ρ2 => pure (.nx ρ2)
    | .rt d => pure (.rt d)
    else pure (.nx ρ)
theorem ss_while (n : Nat) {body : List Stmt} {fb : Ev → M Out} (hp : PassesOwn (model X.prog X.w) X.A X.env X.xe) (hc : EB X c fc) (hb : SSs X body fb) : SS X (.While c body [] pos) (whileS fc fb n) := by
  obtain ⟨tc, p1, q1⟩ := hc.ex
  obtain ⟨tb, p3, q3⟩ := hb.ex
  refine ⟨_, ps_while hp p1 p3, fun W σ H ρ S o S' E w er hf k => ?_⟩
  refine ⟨fun m σ2 H2 => ∃ (W2 : Wd) (S2 : Src) (ρ2 : Ev), KeepS W H W2 H2 ∧ WRel W2 H2 S2 ∧ EnvRel W2 H2 σ2 ρ2 ∧ whileS fc fb m ρ2 S2 = some (o, S'), ⟨n, W, S, ρ, .refl, w, er, hf⟩, ?_⟩
  rintro m σ2 H2 ⟨W2, S2, ρ2, ks, w2, er2, hr⟩
  cases m with
  | zero => cases hr
  | succ m =>
    obtain ⟨b, S3, e1, hr⟩ := M.bind_eq hr
    refine q1 W2 σ2 H2 ρ2 S2 b S3 _ w2 er2 e1 fun H3 k3 w3 => ?_
    have ks3 : KeepS W H W2 H3 := ks.trans w2 w (.of k3)
    cases b with
    | true =>
      rw [if_pos rfl] at hr ⊢
      obtain ⟨o3, S4, e3, hr⟩ := M.bind_eq hr
      refine ⟨fun σ' H' => ∃ (W4 : Wd) (S4 : Src) (ρ4 : Ev), KeepS W H W4 H' ∧ WRel W4 H' S4 ∧ EnvRel W4 H' σ' ρ4 ∧ whileS fc fb m ρ4 S4 = some (o, S'), fun σ' H' h => ⟨m, Nat.lt_succ_self _, h⟩, ?_⟩
      refine q3 W2 σ2 H3 ρ2 S3 o3 S4 _ w3 (er2.keep w2 k3) e3 ?_
      cases o3 with
      | nx ρ4 => exact fun W4 σ4 H4 k4 w4 er4 => ⟨W4, S4, ρ4, ks3.trans w3 w k4, w4, er4, hr⟩
      | ct ρ4 => exact fun W4 σ4 H4 k4 w4 er4 => ⟨W4, S4, ρ4, ks3.trans w3 w k4, w4, er4, hr⟩
      | bk ρ4 =>
        obtain ⟨rfl, rfl⟩ := M.pure_eq hr
        exact fun W4 σ4 H4 k4 w4 er4 => k W4 σ4 H4 (ks3.trans w3 w k4) w4 er4
      | rt d =>
        obtain ⟨rfl, rfl⟩ := M.pure_eq hr
        exact fun W4 v H4 k4 w4 r4 => k W4 v H4 (ks3.trans w3 w k4) w4 r4
    | false =>
      rw [if_neg Bool.false_ne_true] at hr ⊢
      obtain ⟨rfl, rfl⟩ := M.pure_eq hr
      exact k W2 σ2 H3 ks3 w3 (er2.keep w2 k3)
/-- target = value, the target a tuple of names -/
def sAsg (g : D → Ev → Option Ev) (f : Ev → M D) : Ev → M Out := fun ρ => f ρ >>= fun d => M.of (g d ρ) >>= fun ρ' => pure (.nx ρ')
theorem ss_asg {tg : Expr} {is : List Nat} {g : D → Ev → Option Ev} (he : EE X e fe) (hg : EG X tg is g) (hs : swapsWithSole [tg] e pos.line X.env = pure false := by rfl) (hw : swappedStores [tg] e X.env = pure none := by rfl)
    (h1 : (assignEach [tg] X.env).map (·.2) = [assign tg X.env] := by rfl) : SS X (.Assign [tg] e pos) (sAsg g fe) := by
  obtain ⟨t, p, q⟩ := he.ex
  obtain ⟨tgt, p2, q2⟩ := hg.ex
  refine ⟨_, ps_asg p p2 hs hw h1, fun W σ H ρ S o S' E w er hf k => ?_⟩
  obtain ⟨d, S1, e1, hf⟩ := M.bind_eq hf
  obtain ⟨ρ1, S2, e2, hf⟩ := M.bind_eq hf
  obtain ⟨e0, rfl⟩ := M.of_eq e2
  obtain ⟨rfl, rfl⟩ := M.pure_eq hf
  refine q W σ H ρ S d S1 _ w er e1 fun v H1 k1 w1 r1 => ?_
  exact q2 W H1 S1 v d σ ρ ρ1 _ w1 (er.keep w k1) r1 e0 fun σ2 er2 _ => k W σ2 H1 (.of k1) w1 er2
end

/-! ### a def as a whole -/
def cellOf : Bool → D → Cell
  | false, d => .s d
  | true, d => .b d
def startE (n : Nat) (ms : List Bool) (ds : List D) : Ev := (List.zipWith cellOf ms ds).map some ++ List.replicate (n - ds.length) none
def endM : Out → M D
  | .rt d => pure d
  | .nx _ => pure .non
  | _ => M.fail
def fnM (n : Nat) (ms : List Bool) (fb : Ev → M Out) : List D → M D := fun ds => fb (startE n ms ds) >>= endM
theorem start_args {W : Wd} {H : Hp} {ms : List Bool} {vs : List V} {ds : List D} (hL : ∀ a, ¬ W.L a) (a : Args W H ms vs ds) : ∀ (i : Nat) (c : Cell), (List.zipWith cellOf ms ds)[i]? = some c → ∃ v, vs[i]? = some v ∧ CellRel W H v c ∧ ∀ d, c ≠ .o d := by
  induction a with
  | nil => intro i c h; simp at h
  | s r _ ih =>
    intro i c h
    cases i with
    | zero => simp only [List.zipWith_cons_cons, List.getElem?_cons_zero, Option.some.injEq] at h; subst h; exact ⟨_, rfl, r, fun d z => nomatch z⟩
    | succ i => simpa using ih i c (by simpa using h)
  | b r _ ih =>
    intro i c h
    cases i with
    | zero => simp only [List.zipWith_cons_cons, List.getElem?_cons_zero, Option.some.injEq] at h; subst h; exact ⟨_, rfl, r.elim .inl fun ⟨b, e, h1, h2, t⟩ => .inr ⟨b, e, h1, h2, hL b, t⟩, fun d z => nomatch z⟩
    | succ i => simpa using ih i c (by simpa using h)
theorem env_start {W : Wd} {H : Hp} {N : List Str} {ms : List Bool} {vs : List V} {ds : List D} (hL : ∀ a, ¬ W.L a) (a : Args W H ms vs ds) : EnvRel W H (start N vs) (startE N.length ms ds) := by
  have l := a.len
  have lz : (List.zipWith cellOf ms ds).length = vs.length := by rw [List.length_zipWith, l.1, l.2, Nat.min_self]
  have key : ∀ (i : Nat) (c : Cell), (startE N.length ms ds)[i]? = some (some c) → ∃ v, (start N vs)[i]? = some (some v) ∧ CellRel W H v c ∧ ∀ d, c ≠ .o d := by
    intro i c h
    unfold startE at h
    by_cases hi : i < vs.length
    · rw [List.getElem?_append_left (by rw [List.length_map, lz]; exact hi), List.getElem?_map] at h
      cases q : (List.zipWith cellOf ms ds)[i]? with
      | none => rw [q] at h; cases h
      | some c' =>
        rw [q] at h; cases h
        obtain ⟨v, h1, h2⟩ := start_args hL a i c q
        refine ⟨v, ?_, h2⟩
        unfold start
        rw [List.getElem?_append_left (by rw [List.length_map]; exact hi), List.getElem?_map, h1]
        rfl
    · rw [List.getElem?_append_right (by rw [List.length_map, lz]; omega), List.getElem?_replicate] at h
      split at h <;> cases h
  refine ⟨?_, fun i c h => let ⟨v, h1, h2, _⟩ := key i c h; ⟨v, h1, h2⟩, fun i j a d d' h1 _ _ _ => ?_⟩
  · unfold start startE
    rw [List.length_append, List.length_append, List.length_map, List.length_map, List.length_replicate, List.length_replicate, lz, l.1, l.2]
  · obtain ⟨_, _, _, h⟩ := key i _ h1
    exact absurd rfl (h d)
theorem fn_ev {P : Program} {w : World} {K : PySem.W.Frag} {mg : Str → Option Value} {base : Heap} {x qual : Str} {st : Stmt} {f : Addr} {fd : FuncData} {N ps : List Str} {k : Nat} {ms : List Bool} {fb : Ev → M Out} (F : Fun K x qual st f fd) (S : FnScope N ps (defScope st)) (hms : ms.length = ps.length)
    (body : ∀ (cdv : Value) (A : Around) (outer : List Env) (s : Shared) (H : Hp) (E : XK), Room k (A.deeper (envOfC qual (defScope st) s.heap.objs.size f cdv)) → SSs (cxOf CX0 P w K mg base N qual (defScope st) f cdv A outer s H E).nox (defBody st) fb) :
    FnOk P w K mg base CX0 (k + 1) f fd ps (spD ms (fnM N.length ms fb)) := by
  refine F.ok S (fun vs H Q E h => ?_) (fun cdv A outer s H vs Q E hr h => ?_)
  · obtain ⟨W, S, ds, d, S', _, _, a, _⟩ := h
    rw [a.len.1, hms]
  · obtain ⟨W, S0, ds, d, S', hl, w0, a, hf, k⟩ := h
    obtain ⟨t, p, q⟩ := (body cdv A outer s H E hr).ex
    obtain ⟨o, S1, e1, hf⟩ := M.bind_eq hf
    refine ⟨t, p, q W (start N vs) H (startE N.length ms ds) S0 o S1 _ w0 (env_start hl a) e1 ?_⟩
    have fin : ∀ {W' : Wd} {v : V} {H' : Hp} {d' : D}, KeepS W H W' H' → WRel W' H' S' → Rep W'.no W'.sa H' v d' → Keep W H H' ∧ WRel W H' S' ∧ Rep W.no W.sa H' v d' := by
      intro W' v H' d' ks w' r
      refine ⟨fun a o n1 n2 h => ks.k a o (hl a) n1 n2 h, ⟨by rw [← ks.sa, ← ks.ca]; exact w'.hs, by rw [← ks.ca]; exact w'.hc, fun a h => ?_, w0.ne, w0.ap, fun a h => absurd h (hl a)⟩, ?_⟩
      · rcases h with h | h
        · exact w'.mu a (.inl (by rw [ks.C]; exact h))
        · exact absurd h (hl a)
      · rw [← ks.sa]
        refine r.weakN fun a h => ?_
        rcases h with h | h | h | h
        · exact .inl (by rw [ks.C]; exact h)
        · exact absurd h (hl a)
        · exact .inr (.inr (.inl (by rw [ks.sa]; exact h)))
        · exact .inr (.inr (.inr (by rw [ks.ca]; exact h)))
    cases o with
    | nx ρ =>
      obtain ⟨rfl, rfl⟩ := M.pure_eq hf
      intro W' σ' H' ks w' er'
      obtain ⟨a1, a2, a3⟩ := fin (v := .non) (d' := .non) ks w' .non
      exact k _ H' a1 a2 a3
    | rt d' =>
      obtain ⟨rfl, rfl⟩ := M.pure_eq hf
      intro W' v H' ks w' r
      obtain ⟨a1, a2, a3⟩ := fin ks w' r
      exact k _ H' a1 a2 a3
    | bk _ => cases hf
    | ct _ => cases hf
theorem fn_v {P : Program} {w : World} {K : PySem.W.Frag} {mg : Str → Option Value} {base : Heap} {x qual : Str} {st : Stmt} {f : Addr} {fd : FuncData} {ps : List Str} {k : Nat} {ms : List Bool} {m : List D → M D} (F : Fun K x qual st f fd) (hm : mg x = some (.ref f)) (hb : Binds K fd ps []) (h : FnOk P w K mg base CX0 k f fd ps (spD ms m)) :
    FnV P w K mg base k x ms m := ⟨f, fd, ps, hm, F.kp, hb, h⟩
end L2.EV

/-! EV, part F: what is owned: new objects, append, extend, pop, stores, update; dict(..); freezing; several at once. -/
namespace L2.EV
open PySem PySem.Spec PyProof.Rows

/-! ### dicts as tables -/
def putD (kds : List (DKey × D)) (k : DKey) (d : D) : List (DKey × D) :=
  if (kds.any fun p => decide (p.1 = k)) = true then kds.map (fun p => if p.1 = k then (p.1, d) else p) else kds ++ [(k, d)]
def mergeD (kds more : List (DKey × D)) : List (DKey × D) := more.foldl (fun acc p => putD acc p.1 p.2) kds
def mergeT (kvs more : List (List Key × V)) : List (List Key × V) := more.foldl (fun acc p => putK acc p.1 p.2) kvs
section
variable {N : Addr → Prop} {sa : Addr} {H : Hp}
theorem RepK.append : ∀ {a b : List (Key × V)} {c e : List (DKey × D)}, RepK N sa H a c → RepK N sa H b e → RepK N sa H (a ++ b) (c ++ e)
  | _, _, _, _, .nil, s => s
  | _, _, _, _, .cons r t, s => .cons r (RepK.append t s)
theorem RepT.append : ∀ {a b : List (List Key × V)} {c e : List (DKey × D)}, RepT N sa H a c → RepT N sa H b e → RepT N sa H (a ++ b) (c ++ e)
  | _, _, _, _, .nil, s => s
  | _, _, _, _, .cons r t, s => .cons r (RepT.append t s)
theorem RepK.repl {v : V} {d : D} (k : Key) (r : Rep N sa H v d) : ∀ {a : List (Key × V)} {c : List (DKey × D)}, RepK N sa H a c → RepK N sa H (a.map fun p => if p.1 = k then (p.1, v) else p) (c.map fun p => if p.1 = .k k then (p.1, d) else p)
  | _, _, .nil => .nil
  | _, _, .cons (k := j) (v := v') (d := d') q t => by
    rw [List.map_cons, List.map_cons]
    by_cases e : j = k
    · subst e
      rw [if_pos rfl, if_pos rfl]
      exact .cons r (RepK.repl j r t)
    · rw [if_neg e, if_neg (fun z => e (DKey.k.inj z))]
      exact .cons q (RepK.repl k r t)
theorem RepT.repl {v : V} {d : D} (k : List Key) (r : Rep N sa H v d) : ∀ {a : List (List Key × V)} {c : List (DKey × D)}, RepT N sa H a c → RepT N sa H (a.map fun p => if p.1 = k then (p.1, v) else p) (c.map fun p => if p.1 = .t k then (p.1, d) else p)
  | _, _, .nil => .nil
  | _, _, .cons (k := j) (v := v') (d := d') q t => by
    rw [List.map_cons, List.map_cons]
    by_cases e : j = k
    · subst e
      rw [if_pos rfl, if_pos rfl]
      exact .cons r (RepT.repl j r t)
    · rw [if_neg e, if_neg (fun z => e (DKey.t.inj z))]
      exact .cons q (RepT.repl k r t)
theorem RepK.any (k : Key) : ∀ {a : List (Key × V)} {c : List (DKey × D)}, RepK N sa H a c → (a.any fun p => decide (p.1 = k)) = (c.any fun p => decide (p.1 = .k k))
  | _, _, .nil => rfl
  | _, _, .cons (k := j) q t => by
    rw [List.any_cons, List.any_cons, RepK.any k t]
    congr 1
    exact decide_eq_decide.mpr ⟨fun e => congrArg DKey.k e, fun e => DKey.k.inj e⟩
theorem RepT.any (k : List Key) : ∀ {a : List (List Key × V)} {c : List (DKey × D)}, RepT N sa H a c → (a.any fun p => decide (p.1 = k)) = (c.any fun p => decide (p.1 = .t k))
  | _, _, .nil => rfl
  | _, _, .cons (k := j) q t => by
    rw [List.any_cons, List.any_cons, RepT.any k t]
    congr 1
    exact decide_eq_decide.mpr ⟨fun e => congrArg DKey.t e, fun e => DKey.t.inj e⟩
theorem RepK.put {v : V} {d : D} {k : Key} {a : List (Key × V)} {c : List (DKey × D)} (h : RepK N sa H a c) (r : Rep N sa H v d) : RepK N sa H (putK a k v) (putD c (.k k) d) := by
  unfold putK putD
  rw [h.any k]
  by_cases e : (c.any fun p => decide (p.1 = DKey.k k)) = true
  · rw [if_pos e, if_pos e]; exact h.repl k r
  · rw [if_neg e, if_neg e]; exact h.append (.cons r .nil)
theorem RepT.put {v : V} {d : D} {k : List Key} {a : List (List Key × V)} {c : List (DKey × D)} (h : RepT N sa H a c) (r : Rep N sa H v d) : RepT N sa H (putK a k v) (putD c (.t k) d) := by
  unfold putK putD
  rw [h.any k]
  by_cases e : (c.any fun p => decide (p.1 = DKey.t k)) = true
  · rw [if_pos e, if_pos e]; exact h.repl k r
  · rw [if_neg e, if_neg e]; exact h.append (.cons r .nil)
theorem RepK.merge : ∀ {b : List (Key × V)} {e : List (DKey × D)} {a : List (Key × V)} {c : List (DKey × D)}, RepK N sa H b e → RepK N sa H a c → RepK N sa H (mergeK a b) (mergeD c e)
  | _, _, _, _, .nil, h => h
  | _, _, _, _, .cons (k := k) (v := v) (d := d) r t, h => by
    show RepK N sa H (mergeK (putK _ k v) _) (mergeD (putD _ (.k k) d) _)
    exact RepK.merge t (h.put r)
theorem RepT.merge : ∀ {b : List (List Key × V)} {e : List (DKey × D)} {a : List (List Key × V)} {c : List (DKey × D)}, RepT N sa H b e → RepT N sa H a c → RepT N sa H (mergeT a b) (mergeD c e)
  | _, _, _, _, .nil, h => h
  | _, _, _, _, .cons (k := k) (v := v) (d := d) r t, h => by
    show RepT N sa H (mergeT (putK _ k v) _) (mergeD (putD _ (.t k) d) _)
    exact RepT.merge t (h.put r)
end
theorem length_mergeT (more : List (List Key × V)) : ∀ kvs : List (List Key × V), (mergeT kvs more).length ≤ kvs.length + more.length := by
  induction more with
  | nil => intro kvs; exact Nat.le_refl _
  | cons p ps ih =>
    intro kvs
    have h1 := ih (putK kvs p.1 p.2)
    have h2 := length_putK kvs p.1 p.2
    show (mergeT (putK kvs p.1 p.2) ps).length ≤ _
    rw [List.length_cons]
    omega
theorem KT.merge {H : Hp} : ∀ {more : List (List Key × V)} {ps : List (List Key × Addr × Value)} {kvs : List (List Key × V)} {xs : List (List Key × Addr × Value)}, KT H more ps → KT H kvs xs → KT H (mergeT kvs more) (storedAllH xs ps)
  | _, _, _, _, .nil, h => h
  | _, _, _, _, .cons (a := p) (b := q) r t, h => by
    show KT H (mergeT (putK _ p.1 p.2) _) (storedAllH (storedH _ q.1 q.2.1 q.2.2) _)
    refine KT.merge t ?_
    have e : p.1 = q.1 := r.1
    rw [← e]
    exact h.put p.1 r.2.1 r.2.2

/-! ### dict(a list of pairs) -/
def pairK : D → Option (Key × D)
  | .tup [x, v] => (scKey x).map fun k => (k, v)
  | _ => none
def pairT : D → Option (List Key × D)
  | .tup [.tup x, v] => (scKeys x).map fun k => (k, v)
  | _ => none
def pairsBy {κ : Type} (p : D → Option (κ × D)) : List D → Option (List (κ × D))
  | [] => some []
  | d :: ds => match p d, pairsBy p ds with
    | some x, some xs => some (x :: xs)
    | _, _ => none
def tagK (xs : List (Key × D)) : List (DKey × D) := xs.map fun p => (.k p.1, p.2)
def tagT (xs : List (List Key × D)) : List (DKey × D) := xs.map fun p => (.t p.1, p.2)
def dDict (t : Bool) : List D → Option D
  | [.lst xs] => if t = true then (pairsBy pairT xs).map fun ps => .dct true (mergeD [] (tagT ps)) else (pairsBy pairK xs).map fun ps => .dct false (mergeD [] (tagK ps))
  | _ => none
section
variable {N : Addr → Prop} {sa : Addr} {H : Hp}
theorem pairsK_rep : ∀ {vs : List V} {ds : List D} {ps : List (Key × D)}, RepAll N sa H vs ds → pairsBy pairK ds = some ps → ∃ (as : List Addr) (kvs : List (Key × V)), vs = as.map V.ref ∧ Paired (fun p kv => H p = some (.tup [kV kv.1, kv.2])) as kvs ∧ RepK N sa H kvs (tagK ps)
  | _, _, _, .nil, h => by simp only [pairsBy, Option.some.injEq] at h; subst h; exact ⟨[], [], rfl, .nil, .nil⟩
  | _, _, _, .cons (d := d) (ds := ds) r t, h => by
    simp only [pairsBy] at h
    cases e1 : pairK d with
    | none => rw [e1] at h; cases h
    | some p =>
      cases e2 : pairsBy pairK ds with
      | none => rw [e1, e2] at h; cases h
      | some ps =>
        rw [e1, e2] at h; cases h
        obtain ⟨as, kvs, h1, h2, h3⟩ := pairsK_rep t e2
        unfold pairK at e1
        split at e1
        · rename_i x v
          cases e3 : scKey x with
          | none => rw [e3] at e1; cases e1
          | some k =>
            rw [e3] at e1; cases e1
            cases r with
            | @tup a _ _ hH z rr =>
              cases rr with
              | cons ra rb =>
                cases rb with
                | cons rb rc =>
                  cases rc
                  rw [scKey_rep ra e3] at hH
                  exact ⟨a :: as, (k, _) :: kvs, by rw [h1]; rfl, .cons hH h2, .cons rb h3⟩
        · cases e1
theorem pairsT_rep : ∀ {vs : List V} {ds : List D} {ps : List (List Key × D)}, RepAll N sa H vs ds → pairsBy pairT ds = some ps → ∃ (as : List Addr) (kvs : List (List Key × Addr × V)), vs = as.map V.ref ∧
    Paired (fun p (kv : List Key × Addr × V) => H p = some (.tup [.ref kv.2.1, kv.2.2]) ∧ H kv.2.1 = some (.tup (kv.1.map kV))) as kvs ∧ RepT N sa H (kvs.map fun kv => (kv.1, kv.2.2)) (tagT ps)
  | _, _, _, .nil, h => by simp only [pairsBy, Option.some.injEq] at h; subst h; exact ⟨[], [], rfl, .nil, .nil⟩
  | _, _, _, .cons (d := d) (ds := ds) r t, h => by
    simp only [pairsBy] at h
    cases e1 : pairT d with
    | none => rw [e1] at h; cases h
    | some p =>
      cases e2 : pairsBy pairT ds with
      | none => rw [e1, e2] at h; cases h
      | some ps =>
        rw [e1, e2] at h; cases h
        obtain ⟨as, kvs, h1, h2, h3⟩ := pairsT_rep t e2
        unfold pairT at e1
        split at e1
        · rename_i x v
          cases e3 : scKeys x with
          | none => rw [e3] at e1; cases e1
          | some k =>
            rw [e3] at e1; cases e1
            cases r with
            | @tup a _ _ hH z rr =>
              cases rr with
              | cons ra rb =>
                cases rb with
                | cons rb rc =>
                  cases rc
                  cases ra with
                  | @tup b _ _ hb zb rbb =>
                    rw [scKeys_rep rbb e3] at hb
                    exact ⟨a :: as, (k, b, _) :: kvs, by rw [h1]; rfl, .cons ⟨hH, hb⟩ h2, .cons rb h3⟩
        · cases e1
end
def rDictT : List V → Hp → VK → Prop := fun xs H Q => ∃ (a : Addr) (as : List Addr) (kvs : List (List Key × Addr × V)), xs = [.ref a] ∧ H a = some (.lst (as.map V.ref)) ∧
  Paired (fun p (kv : List Key × Addr × V) => H p = some (.tup [.ref kv.2.1, kv.2.2]) ∧ H kv.2.1 = some (.tup (kv.1.map kV))) as kvs ∧ ∀ p, H p = none → Q (.ref p) (upd H p (.dT (mergeT [] (kvs.map fun kv => (kv.1, kv.2.2)))))
/-- the pairs as they lie -/
theorem pairsT_lie {P : Program} {w : World} {H : Hp} {h : Heap} (ok : HOk P w H h) : ∀ {as : List Addr} {kvs : List (List Key × Addr × V)}, Paired (fun p (kv : List Key × Addr × V) => H p = some (.tup [.ref kv.2.1, kv.2.2]) ∧ H kv.2.1 = some (.tup (kv.1.map kV))) as kvs →
    ∃ xs : List (List Key × Addr × Value), as.length = xs.length ∧ KT H (kvs.map fun kv => (kv.1, kv.2.2)) xs ∧ (∀ (j : Nat) (x : List Key × Addr × Value), xs[j]? = some x → ∃ p, as[j]? = some p ∧ PairAt h p (.ref x.2.1) x.2.2 ∧ H x.2.1 = some (.tup (x.1.map kV)))
  | _, _, .nil => ⟨[], rfl, .nil, fun j x e => by simp at e⟩
  | _, _, .cons (a := p) (b := kv) r t => by
    obtain ⟨xs, h1, h2, h3⟩ := pairsT_lie ok t
    obtain ⟨_, its, rv, it⟩ := (show ObjOk P w H h p (.tup [.ref kv.2.1, kv.2.2]) from ok p _ r.1)
    obtain ⟨u, u', rfl, r1, r2⟩ := rv.two
    cases r1
    refine ⟨(kv.1, kv.2.1, u') :: xs, by simp [h1], .cons ⟨rfl, r.2, r2⟩ h2, fun j x e => ?_⟩
    cases j with
    | zero =>
      simp only [List.getElem?_cons_zero, Option.some.injEq] at e
      subst e
      refine ⟨p, rfl, ?_, r.2⟩
      exact .inl it
    | succ j => simpa using h3 j x (by simpa using e)
end L2.EV

/-! EV, part G: what is owned: new objects, append, extend, pop, stores, update; freezing; several at once. -/
namespace L2.EV
open PySem PySem.Spec PyProof.Rows

theorem cr_dictT {X : Cx} (hc : X.calm = true) (hu : X.A.units + 64 < cLine) : CallR X (.type "dict") rDictT := by
  intro pins s σ H xs us Q I r h
  obtain ⟨a, as, kvs, rfl, hH, hp, q⟩ := h
  rw [Vals.ref1 r]
  obtain ⟨its, rv, pl, hz⟩ := I.list (.of hH)
  have ei := refs_at rv
  subst ei
  obtain ⟨xs, hl, kt, hx⟩ := pairsT_lie I.hok hp
  obtain ⟨o, n, ho, hcl, hd, hdat⟩ := pl
  rw [List.length_map] at hz
  have P := PairArg.list (prog := X.prog) (w := X.w) a (as.map Value.ref).toArray (fun j => as.getD j 0) (xs.map fun x => (Value.ref x.2.1, x.2.2))
  refine call_dict_pairsH (knd := tupleKind (mixKind X.prog X.w)) (ps := xs) P (I.ok.hd hc) (show X.A.units + 1 + 1 < cLine by omega) ⟨⟨o, n, ho, hcl, hd, hdat⟩, by simp [hl], fun j k v hj => ?_⟩ ⟨by rw [List.length_map], fun i key v hi => ?_⟩ (fun h' hk x hm => ?_) (by rw [List.length_map, ← hl]; exact hz) fun h' tk hd' k => ?_
  · rw [List.getElem?_map] at hj
    cases e : xs[j]? with
    | none => rw [e] at hj; cases hj
    | some x =>
      rw [e] at hj
      cases hj
      obtain ⟨p, h1, h2, _⟩ := hx j x e
      have hp : as.getD j 0 = p := by rw [List.getD_eq_getElem?_getD, h1]; rfl
      show _ = some (Value.ref (as.getD j 0)) ∧ PairAt s.heap (as.getD j 0) _ _
      rw [hp]
      exact ⟨by simp [h1], h2⟩
  · have hi : (xs.map fun x => (Value.ref x.2.1, x.2.2))[i]? = some (key, v) := hi
    rw [List.getElem?_map] at hi
    cases e : xs[i]? with
    | none => rw [e] at hi; cases hi
    | some x =>
      rw [e] at hi
      cases hi
      exact ⟨x.1, x.2.1, rfl, rfl⟩
  · obtain ⟨j, hj⟩ := List.getElem?_of_mem hm
    obtain ⟨p, _, _, h3⟩ := hx j x hj
    exact tupleKind_stays.stays (fun b ob _ _ e _ => hk b ob (Nat.ne_of_lt (Heap.lt_size e)) (fun z => nomatch z) e) (key_of I.hok h3)
  · have hm : (s.heap.objs.size == sysModules) = false := beq_eq_false_iff_ne.mpr (Nat.ne_of_gt I.big)
    have k' : ∀ b ob, s.heap.get? b = some ob → h'.get? b = some ob := fun b ob e => k b ob (fun z => nomatch z) e
    have hn := I.hok.fresh (Nat.le_refl s.heap.objs.size)
    have kt2 := KT.merge kt (.nil : KT H [] [])
    have hlen : (mergeT [] (kvs.map fun kv => (kv.1, kv.2.2))).length ≤ sizeLine := by
      refine Nat.le_trans (length_mergeT _ _) ?_
      rw [List.length_nil, Nat.zero_add, Paired.length kt, ← hl]
      exact hz
    obtain ⟨ob, es, ep, h1, h2, h3, h4, _, h5⟩ := hd'
    refine ⟨.ref s.heap.objs.size, upd H s.heap.objs.size (.dT _), I.laid (t' := tk) k' (Nat.le_refl _) (show ObjOk X.prog X.w _ _ _ (.dT _) from ⟨hlen, hm, _, kt2.keeps fun b ys e => upd_keep hn e, ob, es, ep, h1, h2, h3, h4, h5⟩), rfl, q _ hn⟩

/-! ### new objects that nobody else knows -/
def CallN (r : List V → Hp → VK → Prop) (h : List D → Option D) : Prop := ∀ (W : Wd) (H : Hp) (S : Src) (vs : List V) (ds : List D) (d : D) (Q : VK), WRel W H S → AllI W H vs ds → h ds = some d →
  (∀ p H', H p = none → Keep W H H' → WRel (W.add p) H' S → Top (W.add p) H' p d → Q (.ref p) H') → r vs H Q
theorem keep_none {W : Wd} {H H1 : Hp} {S : Src} (w1 : WRel W H1 S) (k : Keep W H H1) {p : Addr} (h : H1 p = none) : H p = none := by
  cases q : H p with
  | none => rfl
  | some o =>
    by_cases e1 : p = W.sa
    · rw [e1, w1.hs] at h; cases h
    · by_cases e2 : p = W.ca
      · rw [e2, w1.hc] at h; cases h
      · rw [k p o e1 e2 q] at h; cases h
theorem TNv.call {r : List V → Hp → VK → Prop} {h : List D → Option D} {ms : List Bool} {t : TA} {f : Ev → M (List D)} (hv : CallN r h) (ha : TAv ms t f) : TNv (tCB r t) (eCall h f) := by
  intro W σ H ρ S d S' Q w er hf k
  obtain ⟨ds, S1, h1, hf⟩ := M.bind_eq hf
  obtain ⟨h3, rfl⟩ := M.of_eq hf
  refine ha W σ H ρ S ds S1 _ w er h1 fun vs H1 k1 w1 r1 => ?_
  exact hv W H1 S1 vs ds d Q w1 r1.i h3 fun p H' hp k3 w3 t3 => k p H' (keep_none w1 k1 hp) (k1.trans k3) w3 t3
section
variable {X : Cx} {x : Str} {p pos : Pos} {e : Expr} {es : List Expr} {id T : String} {r : List V → Hp → VK → Prop} {h : List D → Option D} {ms : List Bool} {f : Ev → M (List D)}
theorem en_callB (hc : CallR X (.builtin id) r) (hv : CallN r h) (hm : X.mg x = none) (hb : bootBuiltins x = some (.builtin id)) (ha : EA X ms (e :: es) f) (hg : Gl X x := by rfl) (hn : x ≠ "__name__" := by decide) (hdb : (x == ("__debug__" : Str)) = false := by decide)
    (he : starEach (e :: es) X.env = (false, eval e X.env) :: starEach es X.env := by rfl) (hpl : (backTo pos (starEach es X.env)).any (·.1) = false := by rfl) : EN X (.Call (.Name x p) (e :: es) [] pos) (eCall h f) := by
  obtain ⟨t, p1, q1⟩ := ha.ex
  exact ⟨_, pe_callB hc hg hm hb p1 hn hdb he hpl, TNv.call hv q1⟩
theorem en_callTy (hc : CallR X (.type T) r) (hv : CallN r h) (hm : X.mg x = none) (hb : bootBuiltins x = some (.type T)) (ha : EA X ms (e :: es) f) (hg : Gl X x := by rfl) (hn : x ≠ "__name__" := by decide) (hdb : (x == ("__debug__" : Str)) = false := by decide)
    (he : starEach (e :: es) X.env = (false, eval e X.env) :: starEach es X.env := by rfl) (hpl : (backTo pos (starEach es X.env)).any (·.1) = false := by rfl) : EN X (.Call (.Name x p) (e :: es) [] pos) (eCall h f) := by
  obtain ⟨t, p1, q1⟩ := ha.ex
  exact ⟨_, pe_callTy hc hg hm hb p1 hn hdb he hpl, TNv.call hv q1⟩
end
theorem CallN.v {r : List V → Hp → VK → Prop} {h : List D → Option D} (c : CallN r h) : CallV r h := fun W H S vs ds d Q w a hh k => c W H S vs ds d Q w a hh fun p H' hp k1 w1 t1 => k _ H' k1 w1.unadd (t1.rep (new_no w hp) no_add)
section
variable {W : Wd} {H : Hp} {S : Src} {p : Addr} {vs : List V} {ds : List D}
/-- the top of a new list -/
theorem top_lst (w : WRel W H S) (hp : H p = none) (r : RepAll W.no W.sa H vs ds) (z : vs.length ≤ sizeLine) : Keep W H (upd H p (.lst vs)) ∧ WRel (W.add p) (upd H p (.lst vs)) S ∧ Top (W.add p) (upd H p (.lst vs)) p (.lst ds) :=
  ⟨keep_laid hp, w.own hp trivial, vs, upd_same, z, r.step w (KeepC.add (keep_laid hp) hp).s⟩
theorem top_dK {kvs : List (Key × V)} {kds : List (DKey × D)} (w : WRel W H S) (hp : H p = none) (r : RepK W.no W.sa H kvs kds) (z : kvs.length ≤ sizeLine) : Keep W H (upd H p (.dK kvs)) ∧ WRel (W.add p) (upd H p (.dK kvs)) S ∧ Top (W.add p) (upd H p (.dK kvs)) p (.dct false kds) :=
  ⟨keep_laid hp, w.own hp trivial, kvs, .inl upd_same, z, r.step w (KeepC.add (keep_laid hp) hp).s⟩
theorem top_dT {kvs : List (List Key × V)} {kds : List (DKey × D)} (w : WRel W H S) (hp : H p = none) (r : RepT W.no W.sa H kvs kds) (z : kvs.length ≤ sizeLine) : Keep W H (upd H p (.dT kvs)) ∧ WRel (W.add p) (upd H p (.dT kvs)) S ∧ Top (W.add p) (upd H p (.dT kvs)) p (.dct true kds) :=
  ⟨keep_laid hp, w.own hp trivial, kvs, .inl upd_same, z, r.step w (KeepC.add (keep_laid hp) hp).s⟩
end
theorem cn_list {K : PySem.W.Frag} : CallN (rListOf K) dList := by
  intro W H S vs ds d Q w a h k
  unfold dList at h
  split at h
  · cases h
    obtain ⟨v, rfl, r⟩ := a.one
    obtain ⟨p, us, rfl, hH, z, r, _⟩ := r.lst
    exact ⟨p, us, rfl, .inl (.of hH), fun l hl => let t := top_lst w hl r z; k l _ hl t.1 t.2.1 t.2.2⟩
  · cases h
    obtain ⟨v, rfl, r⟩ := a.one
    obtain ⟨p, us, rfl, hH, z, r⟩ := r.tup
    exact ⟨p, us, rfl, .inr (.of hH), fun l hl => let t := top_lst w hl r z; k l _ hl t.1 t.2.1 t.2.2⟩
  · cases h
theorem mergeD_len (more : List (DKey × D)) : ∀ kds : List (DKey × D), (mergeD kds more).length ≤ kds.length + more.length := by
  induction more with
  | nil => intro kds; exact Nat.le_refl _
  | cons p ps ih =>
    intro kds
    have h1 := ih (putD kds p.1 p.2)
    have h2 : (putD kds p.1 p.2).length ≤ kds.length + 1 := by
      unfold putD; split <;> simp
    show (mergeD (putD kds p.1 p.2) ps).length ≤ _
    rw [List.length_cons]
    omega
def rDictK (K : PySem.W.Frag) : List V → Hp → VK → Prop := fun xs H Q => ∃ (a : Addr) (ps : List Addr) (kvs : List (Key × V)), xs = [.ref a] ∧ SqL K H a (ps.map V.ref) ∧ Paired (fun p kv => SqT K H p [kV kv.1, kv.2]) ps kvs ∧
    ∀ p, H p = none → Q (.ref p) (upd H p (.dK (mergeK [] kvs)))
theorem cr_dictK {X : Cx} (hc : X.calm = true) : CallR X (.type "dict") (rDictK X.K) := call_dictP hc
theorem cn_dictT : CallN rDictT (dDict true) := by
  intro W H S vs ds d Q w a h k
  unfold dDict at h
  split at h
  · rename_i xs
    rw [if_pos rfl] at h
    cases e : pairsBy pairT xs with
    | none => rw [e] at h; cases h
    | some ps =>
      rw [e] at h; cases h
      obtain ⟨v, rfl, r⟩ := a.one
      obtain ⟨p, us, rfl, hH, z, r, _⟩ := r.lst
      obtain ⟨as, kvs, h1, h2, h3⟩ := pairsT_rep r e
      rw [h1] at hH z
      refine ⟨p, as, kvs, rfl, hH, h2, fun l hl => ?_⟩
      have hlen : (mergeT [] (kvs.map fun kv => (kv.1, kv.2.2))).length ≤ sizeLine := by
        refine Nat.le_trans (length_mergeT _ _) ?_
        rw [List.length_nil, Nat.zero_add, List.length_map, ← Paired.length h2]
        rw [List.length_map] at z
        exact z
      have t := top_dT w hl (RepT.merge h3 .nil) hlen
      exact k l _ hl t.1 t.2.1 t.2.2
  · cases h
theorem cn_dictK {K : PySem.W.Frag} : CallN (rDictK K) (dDict false) := by
  intro W H S vs ds d Q w a h k
  unfold dDict at h
  split at h
  · rename_i xs
    rw [if_neg Bool.false_ne_true] at h
    cases e : pairsBy pairK xs with
    | none => rw [e] at h; cases h
    | some ps =>
      rw [e] at h; cases h
      obtain ⟨v, rfl, r⟩ := a.one
      obtain ⟨p, us, rfl, hH, z, r, _⟩ := r.lst
      obtain ⟨as, kvs, h1, h2, h3⟩ := pairsK_rep r e
      rw [h1] at hH z
      have h2' : Paired (fun p (kv : Key × V) => SqT K H p [kV kv.1, kv.2]) as kvs := Paired.mapP h2 fun _ _ q => .of q
      refine ⟨p, as, kvs, rfl, .of hH, h2', fun l hl => ?_⟩
      have hlen : (mergeK [] kvs).length ≤ sizeLine := by
        refine Nat.le_trans (length_mergeK kvs []) ?_
        rw [List.length_nil, Nat.zero_add, ← Paired.length h2]
        rw [List.length_map] at z
        exact z
      have t := top_dK w hl (RepK.merge h3 .nil) hlen
      exact k l _ hl t.1 t.2.1 t.2.2
  · cases h
section
variable {X : Cx} {pos : Pos} {a b : Expr} {f g : Ev → M D}
theorem en_lst {ms : List Bool} {es : List Expr} {f : Ev → M (List D)} (h : EA X ms es f) (hm : ∀ m ∈ ms, m = false := by decide) (hz : ms.length ≤ sizeLine := by decide) : EN X (.List es pos) (eLst f) := by
  obtain ⟨t, p, q⟩ := h.ex
  refine ⟨_, pe_lst p, fun W σ H ρ S d S' Q w er hf k => ?_⟩
  obtain ⟨xs, S1, e1, hf⟩ := M.bind_eq hf
  obtain ⟨rfl, rfl⟩ := M.pure_eq hf
  refine q W σ H ρ S xs S1 _ w er e1 fun vs H1 k1 w1 r1 => ?_
  have z : vs.length ≤ sizeLine := by rw [r1.len.1]; exact hz
  refine ⟨z, fun p hp => ?_⟩
  have t := top_lst w1 hp (r1.all hm) z
  exact k p _ (keep_none w1 k1 hp) (k1.trans t.1) t.2.1 t.2.2
theorem en_dnewK : EN X (.Dict [] [] pos) (eC (.dct false [])) := ⟨_, pe_dnewK, fun W σ H ρ S d S' Q w er hf k p hp => by
  obtain ⟨rfl, rfl⟩ := M.pure_eq hf
  have t := top_dK w hp (.nil : RepK W.no W.sa H [] []) (Nat.zero_le _)
  exact k p _ hp t.1 t.2.1 t.2.2⟩
theorem en_dnewT : EN X (.Dict [] [] pos) (eC (.dct true [])) := ⟨_, pe_dnewT, fun W σ H ρ S d S' Q w er hf k p hp => by
  obtain ⟨rfl, rfl⟩ := M.pure_eq hf
  have t := top_dT w hp (.nil : RepT W.no W.sa H [] []) (Nat.zero_le _)
  exact k p _ hp t.1 t.2.1 t.2.2⟩
/-- xs + ys, xs * k of lists -/
def dAddL (x y : D) : Option D := match x, y with
  | .lst a, .lst b => if a.length + b.length ≤ sizeLine then some (.lst (a ++ b)) else none
  | _, _ => none
theorem en_addL (ha : EI X a f) (hb : EI X b g) : EN X (.BinOp a .Add b pos) (eBin dAddL f g) := by
  obtain ⟨ta, p1, q1⟩ := ha.ex
  obtain ⟨tb, p2, q2⟩ := hb.ex
  refine ⟨_, pe_op op_cat p1 p2, fun W σ H ρ S d S' Q w er hf k => ?_⟩
  obtain ⟨x, S1, h1, hf⟩ := M.bind_eq hf
  obtain ⟨y, S2, h2, hf⟩ := M.bind_eq hf
  obtain ⟨h3, rfl⟩ := M.of_eq hf
  refine q1 W σ H ρ S x S1 _ w er h1 fun v H1 k1 w1 r1 => ?_
  refine q2 W σ H1 ρ S1 y S2 _ w1 (er.keep w k1) h2 fun u H2 k2 w2 r2 => ?_
  unfold dAddL at h3
  split at h3
  · split at h3
    · rename_i c
      cases h3
      obtain ⟨p, vs, rfl, hH, z, r, _⟩ := (r1.keep w1 k2).lst
      obtain ⟨p', us, rfl, hH', z', r', _⟩ := r2.lst
      have zz : vs.length + us.length ≤ sizeLine := by rw [r.length, r'.length]; exact c
      refine ⟨p, p', vs, us, rfl, rfl, hH, hH', zz, fun q hq => ?_⟩
      have t := top_lst w2 hq (r.append r') (by rw [List.length_append]; exact zz)
      exact k q _ (keep_none w1 k1 (keep_none w2 k2 hq)) ((k1.trans k2).trans t.1) t.2.1 t.2.2
    · cases h3
  · cases h3
def dMulL (x y : D) : Option D := match x, y with
  | .lst a, .int k => if -(2 ^ 63) ≤ k ∧ k < 2 ^ 63 ∧ a.length * k.toNat ≤ sizeLine then some (.lst (List.replicate k.toNat a).flatten) else none
  | _, _ => none
theorem en_mulL (ha : EI X a f) (hb : EI X b g) : EN X (.BinOp a .Mult b pos) (eBin dMulL f g) := by
  obtain ⟨ta, p1, q1⟩ := ha.ex
  obtain ⟨tb, p2, q2⟩ := hb.ex
  refine ⟨_, pe_op op_rep p1 p2, fun W σ H ρ S d S' Q w er hf k => ?_⟩
  obtain ⟨x, S1, h1, hf⟩ := M.bind_eq hf
  obtain ⟨y, S2, h2, hf⟩ := M.bind_eq hf
  obtain ⟨h3, rfl⟩ := M.of_eq hf
  refine q1 W σ H ρ S x S1 _ w er h1 fun v H1 k1 w1 r1 => ?_
  refine q2 W σ H1 ρ S1 y S2 _ w1 (er.keep w k1) h2 fun u H2 k2 w2 r2 => ?_
  unfold dMulL at h3
  split at h3
  · rename_i b n _
    split at h3
    · rename_i c
      cases h3
      obtain ⟨p, vs, rfl, hH, z, r, _⟩ := (r1.keep w1 k2).lst
      obtain ⟨c1, c2, c3⟩ := c
      have z : vs.length * n.toNat ≤ sizeLine := by rw [r.length]; exact c3
      have rr : ∀ m : Nat, RepAll W.no W.sa H2 (List.replicate m vs).flatten (List.replicate m b).flatten := by
        intro m
        induction m with
        | zero => exact .nil
        | succ m ih =>
          rw [List.replicate_succ, List.replicate_succ, List.flatten_cons, List.flatten_cons]
          exact r.append ih
      have zz : (List.replicate n.toNat vs).flatten.length ≤ sizeLine := by
        have e : (List.replicate n.toNat vs).flatten.length = n.toNat * vs.length := by simp
        rw [e, Nat.mul_comm]
        exact z
      refine ⟨p, n, vs, rfl, r2.int, hH, c1, c2, z, fun q hq => ?_⟩
      have t := top_lst w2 hq (rr _) zz
      exact k q _ (keep_none w1 k1 (keep_none w2 k2 hq)) ((k1.trans k2).trans t.1) t.2.1 t.2.2
    · cases h3
  · cases h3
end

/-! ### freezing -/
def frz (i : Nat) (ρ : Ev) : Ev := match ρ[i]? with
  | some (some (.o d)) => ρ.set i (some (.s d))
  | _ => ρ
def sFrz (i : Nat) (f : Ev → M Out) : Ev → M Out := fun ρ => f (frz i ρ)
theorem EnvRel.frz {W : Wd} {H : Hp} {S : Src} {σ : St} {ρ : Ev} (w : WRel W H S) (er : EnvRel W H σ ρ) (i : Nat) : ∃ W', KeepS W H W' H ∧ WRel W' H S ∧ EnvRel W' H σ (EV.frz i ρ) := by
  unfold EV.frz
  split
  · rename_i d e
    obtain ⟨v, hv, a, rfl, l, t⟩ := er.get i _ e
    refine ⟨W.del a, .del a, w.del a, ?_⟩
    have hi : i < ρ.length := (List.getElem?_eq_some_iff.mp e).1
    refine ⟨by simp [er.len], fun j c h => ?_, fun j k b d1 d2 h1 h2 h3 h4 => ?_⟩
    · by_cases hj : i = j
      · subst hj
        rw [List.getElem?_set_self hi] at h
        cases h
        exact ⟨.ref a, hv, t.rep (del_not w l) del_no⟩
      · rw [List.getElem?_set_ne hj] at h
        obtain ⟨u, h1, h2⟩ := er.get j c h
        refine ⟨u, h1, ?_⟩
        cases c with
        | s d' => exact Rep.weakN del_no h2
        | b d' =>
          rcases h2 with r | ⟨b, e', n1, n2, n3, t'⟩
          · exact .inl (r.weakN del_no)
          · exact .inr ⟨b, e', n1, n2, fun z => n3 z.1, t'.step w (.del a) fun o h => h⟩
        | o d' =>
          obtain ⟨b, rfl, l', t'⟩ := h2
          exact ⟨b, rfl, ⟨l', fun z => hj (er.sep i j a d d' e h hv (by rw [z] at h1; exact h1))⟩, t'.step w (.del a) fun o h => h⟩
    · have nj : i ≠ j := by
        rintro rfl; rw [List.getElem?_set_self hi] at h1; cases h1
      have nk : i ≠ k := by
        rintro rfl; rw [List.getElem?_set_self hi] at h2; cases h2
      rw [List.getElem?_set_ne nj] at h1
      rw [List.getElem?_set_ne nk] at h2
      exact er.sep j k b d1 d2 h1 h2 h3 h4
  · exact ⟨W, .refl, w, er⟩
theorem ss_frz (i : Nat) {X : Cx} {st : Stmt} {f : Ev → M Out} (h : SS X st f) : SS X st (sFrz i f) := by
  obtain ⟨t, p, q⟩ := h.ex
  refine ⟨t, p, fun W σ H ρ S o S' E w er hf k => ?_⟩
  obtain ⟨W', ks, w', er'⟩ := er.frz w i
  exact q W' σ H _ S o S' E w' er' hf (k.step w w' ks)

/-! ### methods of what is owned -/
def ownAt (ρ : Ev) (i : Nat) : Option D := match ρ[i]? with
  | some (some (.o d)) => some d
  | _ => none
theorem ownAt_eq {ρ : Ev} {i : Nat} {d : D} (h : ownAt ρ i = some d) : ρ[i]? = some (some (.o d)) := by
  unfold ownAt at h
  split at h
  · cases h; assumption
  · cases h
/-- an owned object is written -/
theorem EnvRel.wrote {W : Wd} {H : Hp} {S : Src} {σ : St} {ρ : Ev} {i : Nat} {a : Addr} {d d' : D} {o : HO} (er : EnvRel W H σ ρ) (w : WRel W H S) (e : ρ[i]? = some (some (.o d))) (hv : σ[i]? = some (some (.ref a))) (l : W.L a) (m : Mut (some o)) (t : Top W (upd H a o) a d') :
    EnvRel W (upd H a o) σ (ρ.set i (some (.o d'))) := by
  have hi : i < ρ.length := (List.getElem?_eq_some_iff.mp e).1
  have ks : KeepS W H W (upd H a o) := .wrote l
  refine ⟨by simp [er.len], fun j c h => ?_, fun j k b d1 d2 h1 h2 h3 h4 => ?_⟩
  · by_cases hj : i = j
    · subst hj
      rw [List.getElem?_set_self hi] at h
      cases h
      exact ⟨.ref a, hv, a, rfl, l, t⟩
    · rw [List.getElem?_set_ne hj] at h
      obtain ⟨u, h1, h2⟩ := er.get j c h
      refine ⟨u, h1, ?_⟩
      cases c with
      | s d2 => exact Rep.step w ks h2
      | b d2 =>
        rcases h2 with r | ⟨b, e', n1, n2, n3, t'⟩
        · exact .inl (r.step w ks)
        · exact .inr ⟨b, e', n1, n2, n3, t'.step w ks fun o' h => by rw [upd_ne (fun z => n3 (by rw [z]; exact l))]; exact h⟩
      | o d2 =>
        obtain ⟨b, rfl, l', t'⟩ := h2
        have hb : b ≠ a := fun z => hj (er.sep i j a d d2 e h hv (by rw [z] at h1; exact h1))
        exact ⟨b, rfl, l', t'.step w ks fun o' h => by rw [upd_ne hb]; exact h⟩
  · have go : ∀ {j : Nat} {d1 : D}, (ρ.set i (some (.o d')))[j]? = some (some (.o d1)) → ∃ d2, ρ[j]? = some (some (.o d2)) := fun {j d1} h => by
      by_cases hj : i = j
      · subst hj; exact ⟨d, e⟩
      · rw [List.getElem?_set_ne hj] at h; exact ⟨d1, h⟩
    obtain ⟨x, hx⟩ := go h1
    obtain ⟨y, hy⟩ := go h2
    exact er.sep j k b x y hx hy h3 h4
end L2.EV

/-! EV, part H: methods of what is owned; stores; several names at once. -/
namespace L2.EV
open PySem PySem.Spec PyProof.Rows

def tA (ms : List Bool) (f : Ev → M (List D)) : TA := fun σ H Q => ∃ (W : Wd) (ρ : Ev) (S : Src) (ds : List D) (S' : Src), WRel W H S ∧ EnvRel W H σ ρ ∧ f ρ S = some (ds, S') ∧ ∀ vs H', Keep W H H' → WRel W H' S' → Args W H' ms vs ds → Q vs H'
theorem tA_v (ms : List Bool) (f : Ev → M (List D)) : TAv ms (tA ms f) f := fun W σ H ρ S ds S' Q w er hf k => ⟨W, ρ, S, ds, S', w, er, hf, k⟩
theorem EA.max {X : Cx} {ms : List Bool} {es : List Expr} {f : Ev → M (List D)} (h : EA X ms es f) : PA X es (tA ms f) := by
  obtain ⟨t, p, q⟩ := h.ex
  exact ⟨fun pos pins s σ H Q I ⟨W, ρ, S, d, S', w, er, hf, k⟩ => p.run pos pins s σ H Q I (q W σ H ρ S d S' Q w er hf k)⟩

/-- a method by values: what is behind it at the owned place, what it hands back -/
def MethV (ms : List Bool) (r : V → List V → Hp → VK → Prop) (h : D → List D → Option (D × D)) : Prop := ∀ (W : Wd) (H : Hp) (S : Src) (a : Addr) (d0 : D) (vs : List V) (ds : List D) (d1 rt : D) (Q : VK), WRel W H S → W.L a → Top W H a d0 → Args W H ms vs ds → h d0 ds = some (d1, rt) →
  (∀ o v, Mut (some o) → Top W (upd H a o) a d1 → Rep W.no W.sa (upd H a o) v rt → Q v (upd H a o)) → r (.ref a) vs H Q
def sMeth (i : Nat) (h : D → List D → Option (D × D)) (f : Ev → M (List D)) : Ev → M Out := fun ρ => f ρ >>= fun ds => M.of ((ownAt ρ i).bind fun d0 => (h d0 ds).map fun p => Out.nx (ρ.set i (some (.o p.1))))
def sMethV (i j : Nat) (h : D → List D → Option (D × D)) (f : Ev → M (List D)) : Ev → M Out := fun ρ => f ρ >>= fun ds => M.of ((ownAt ρ i).bind fun d0 => (h d0 ds).map fun p => Out.nx ((ρ.set i (some (.o p.1))).set j (some (.s p.2))))
def TyOk (K : PySem.W.Frag) (T : String) (h : D → List D → Option (D × D)) : Prop := ∀ (W : Wd) (H : Hp) (a : Addr) (d0 : D) (ds : List D) (p : D × D), Mut (H a) → Top W H a d0 → h d0 ds = some p → tyV K T (.ref a) H
section
variable {X : Cx} {st : Stmt} {ms : List Bool} {r : V → List V → Hp → VK → Prop} {h : D → List D → Option (D × D)} {f : Ev → M (List D)} {T : String}
theorem meth_core {K : PySem.W.Frag} (hm : MethV ms r h) (ht : TyOk K T h) {i : Nat} {W : Wd} {σ : St} {H : Hp} {ρ : Ev} {S S' : Src} {ds : List D} {d0 d1 rt : D} {Q : VK} (w : WRel W H S) (er : EnvRel W H σ ρ) (h1 : f ρ S = some (ds, S')) (h2 : ownAt ρ i = some d0) (h3 : h d0 ds = some (d1, rt))
    (k : ∀ v H', KeepS W H W H' → WRel W H' S' → EnvRel W H' σ (ρ.set i (some (.o d1))) → Rep W.no W.sa H' v rt → Q v H') : tBM K T r (tVar i) (tA ms f) σ H Q := by
  obtain ⟨v, hv, a, rfl, l, t⟩ := er.get i _ (ownAt_eq h2)
  refine ⟨.ref a, hv, ht W H a d0 ds _ (w.ml a l) t h3, tA_v ms f W σ H ρ S ds S' _ w er h1 fun vs H1 k1 w1 r1 => ?_⟩
  have n := w.ne a (.inr l)
  refine hm W H1 S' a d0 vs ds d1 rt _ w1 l (t.keep w k1 n.1 n.2) r1 h3 fun o v mu t1 r1 => ?_
  exact k v _ ((KeepS.of k1).trans w1 w (.wrote l)) (w1.wrote l mu) ((er.keep w k1).wrote w1 (ownAt_eq h2) hv l mu t1) r1
theorem ss_meth (i : Nat) (hm : MethV ms r h) (ht : TyOk X.K T h) (hp : PS X st (tDrop (tBM X.K T r (tVar i) (tA ms f)))) : SS X st (sMeth i h f) := by
  refine ⟨_, hp, fun W σ H ρ S o S' E w er hf k => ?_⟩
  obtain ⟨ds, S1, h1, hf⟩ := M.bind_eq hf
  obtain ⟨h2, rfl⟩ := M.of_eq hf
  obtain ⟨d0, g2, g3⟩ := Option.bind_eq_some_iff.mp h2
  obtain ⟨⟨d1, rt⟩, g4, rfl⟩ := Option.map_eq_some_iff.mp g3
  exact meth_core hm ht w er h1 g2 g4 fun v H' ks w' er' _ => k W σ H' ks w' er'
theorem ss_methV (i j : Nat) (hm : MethV ms r h) (ht : TyOk X.K T h) (hp : PS X st (tAsg (tBM X.K T r (tVar i) (tA ms f)) (gName j))) : SS X st (sMethV i j h f) := by
  refine ⟨_, hp, fun W σ H ρ S o S' E w er hf k => ?_⟩
  obtain ⟨ds, S1, h1, hf⟩ := M.bind_eq hf
  obtain ⟨h2, rfl⟩ := M.of_eq hf
  obtain ⟨d0, g2, g3⟩ := Option.bind_eq_some_iff.mp h2
  obtain ⟨⟨d1, rt⟩, g4, rfl⟩ := Option.map_eq_some_iff.mp g3
  exact meth_core hm ht w er h1 g2 g4 fun v H' ks w' er' r' => k W _ H' ks w' (er'.sets r')
/-- without arguments -/
theorem meth_core0 {K : PySem.W.Frag} (hm : MethV [] r h) (ht : TyOk K T h) {i : Nat} {W : Wd} {σ : St} {H : Hp} {ρ : Ev} {S : Src} {d0 d1 rt : D} {Q : VK} (w : WRel W H S) (er : EnvRel W H σ ρ) (h2 : ownAt ρ i = some d0) (h3 : h d0 [] = some (d1, rt))
    (k : ∀ v H', KeepS W H W H' → WRel W H' S → EnvRel W H' σ (ρ.set i (some (.o d1))) → Rep W.no W.sa H' v rt → Q v H') : tBM0 K T r (tVar i) σ H Q := by
  obtain ⟨v, hv, a, rfl, l, t⟩ := er.get i _ (ownAt_eq h2)
  refine ⟨.ref a, hv, ht W H a d0 [] _ (w.ml a l) t h3, ?_⟩
  refine hm W H S a d0 [] [] d1 rt _ w l t .nil h3 fun o v mu t1 r1 => ?_
  exact k v _ (.wrote l) (w.wrote l mu) (er.wrote w (ownAt_eq h2) hv l mu t1) r1
theorem ss_meth0 (i : Nat) (hm : MethV [] r h) (ht : TyOk X.K T h) (hp : PS X st (tDrop (tBM0 X.K T r (tVar i)))) : SS X st (sMeth i h aNil) := by
  refine ⟨_, hp, fun W σ H ρ S o S' E w er hf k => ?_⟩
  obtain ⟨ds, S1, h1, hf⟩ := M.bind_eq hf
  obtain ⟨rfl, rfl⟩ := M.pure_eq h1
  obtain ⟨h2, rfl⟩ := M.of_eq hf
  obtain ⟨d0, g2, g3⟩ := Option.bind_eq_some_iff.mp h2
  obtain ⟨⟨d1, rt⟩, g4, rfl⟩ := Option.map_eq_some_iff.mp g3
  exact meth_core0 hm ht w er g2 g4 fun v H' ks w' er' _ => k W σ H' ks w' er'
theorem ss_methV0 (i j : Nat) (hm : MethV [] r h) (ht : TyOk X.K T h) (hp : PS X st (tAsg (tBM0 X.K T r (tVar i)) (gName j))) : SS X st (sMethV i j h aNil) := by
  refine ⟨_, hp, fun W σ H ρ S o S' E w er hf k => ?_⟩
  obtain ⟨ds, S1, h1, hf⟩ := M.bind_eq hf
  obtain ⟨rfl, rfl⟩ := M.pure_eq h1
  obtain ⟨h2, rfl⟩ := M.of_eq hf
  obtain ⟨d0, g2, g3⟩ := Option.bind_eq_some_iff.mp h2
  obtain ⟨⟨d1, rt⟩, g4, rfl⟩ := Option.map_eq_some_iff.mp g3
  exact meth_core0 hm ht w er g2 g4 fun v H' ks w' er' r' => k W _ H' ks w' (er'.sets r')
end
theorem ty_list {K : PySem.W.Frag} {h : D → List D → Option (D × D)} (hl : ∀ d ds p, h d ds = some p → ∃ xs, d = .lst xs) : TyOk K "list" h := fun W H a d0 ds p _ t e => by
  obtain ⟨xs, rfl⟩ := hl _ _ _ e
  obtain ⟨vs, h, _⟩ := t
  exact .inl ⟨rfl, _, .of h⟩
/-! lists -/
def hAppend : D → List D → Option (D × D) := fun d ds => match d, ds with
  | .lst xs, [y] => if xs.length < sizeLine then some (.lst (xs ++ [y]), .non) else none
  | _, _ => none
theorem ty_append {K : PySem.W.Frag} : TyOk K "list" hAppend := ty_list fun d ds p h => by
  unfold hAppend at h
  split at h
  · exact ⟨_, rfl⟩
  · cases h
theorem mv_append : MethV [false] rAppend hAppend := by
  intro W H S a d0 vs ds d1 rt Q w l t ar h k
  unfold hAppend at h
  split at h
  · rename_i xs y
    split at h
    · rename_i c
      cases h
      obtain ⟨us, hH, z, r⟩ := t
      cases ar with
      | s r1 ar =>
        cases ar
        have zz : us.length < sizeLine := by rw [r.length]; exact c
        refine ⟨a, us, _, rfl, rfl, hH, zz, k _ _ trivial ⟨_, upd_same, ?_, (r.append (.cons r1 .nil)).step w (.wrote l)⟩ .non⟩
        rw [List.length_append]; simp; omega
    · cases h
  · cases h
def hExtend : D → List D → Option (D × D) := fun d ds => match d, ds with
  | .lst xs, [.lst ys] => if xs.length + ys.length ≤ sizeLine then some (.lst (xs ++ ys), .non) else none
  | _, _ => none
theorem ty_extend {K : PySem.W.Frag} : TyOk K "list" hExtend := ty_list fun d ds p h => by
  unfold hExtend at h
  split at h
  · exact ⟨_, rfl⟩
  · cases h
theorem mv_extend : MethV [true] rExtend hExtend := by
  intro W H S a d0 vs ds d1 rt Q w l t ar h k
  unfold hExtend at h
  split at h
  · rename_i xs ys
    split at h
    · rename_i c
      cases h
      obtain ⟨us, hH, z, r⟩ := t
      cases ar with
      | b r1 ar =>
        cases ar
        obtain ⟨b, us2, rfl, hB, z2, r2, _⟩ := r1.lst
        have zz : us.length + us2.length ≤ sizeLine := by rw [r.length, r2.length]; exact c
        exact ⟨a, b, us, us2, rfl, rfl, hH, hB, zz, k _ _ trivial ⟨_, upd_same, by rw [List.length_append]; exact zz, (r.append r2).step w (.wrote l)⟩ .non⟩
    · cases h
  · cases h
def hPop : D → List D → Option (D × D) := fun d ds => match d, ds with
  | .lst xs, [] => (xs[xs.length - 1]?).map fun y => (.lst xs.dropLast, y)
  | _, _ => none
theorem ty_pop {K : PySem.W.Frag} : TyOk K "list" hPop := ty_list fun d ds p h => by
  unfold hPop at h
  split at h
  · exact ⟨_, rfl⟩
  · cases h
theorem mv_pop : MethV [] rPop hPop := by
  intro W H S a d0 vs ds d1 rt Q w l t ar h k
  unfold hPop at h
  split at h
  · rename_i xs
    cases e : xs[xs.length - 1]? with
    | none => rw [e] at h; cases h
    | some y =>
      rw [e] at h
      cases h
      obtain ⟨us, hH, z, r⟩ := t
      cases ar
      obtain ⟨v, e1, r1⟩ := r.get e
      rw [← r.length] at e1
      refine ⟨a, us, v, rfl, rfl, hH, e1, k _ _ trivial ⟨_, upd_same, ?_, r.dropLast.step w (.wrote l)⟩ (r1.step w (.wrote l))⟩
      rw [List.length_dropLast]; omega
  · cases h
/-! stores -/
def dPut (d k v : D) : Option D := match d with
  | .lst xs => match k with
    | .int i => (ixN xs.length i).map fun j => .lst (xs.set j v)
    | _ => none
  | .dct false kds => match dKey k with
    | some (.k x) => if kds.length < sizeLine then some (.dct false (putD kds (.k x) v)) else none
    | _ => none
  | .dct true kds => match dKey k with
    | some (.t x) => if kds.length < sizeLine then some (.dct true (putD kds (.t x) v)) else none
    | _ => none
  | _ => none
def rSetAll : TSet := fun o i v H Q => rSetL o i v H Q ∨ rSetD o i v H Q
theorem set_all {X : Cx} (hu : X.A.units + 1 < cLine) : PSet X rSetAll := by
  intro pins s σ H o i v ov iv u Q I ro ri rv h
  rcases h with h | h
  · exact set_list pins s σ H o i v ov iv u Q I ro ri rv h
  · exact set_dict hu pins s σ H o i v ov iv u Q I ro ri rv h
theorem key_rep {W : Wd} {H : Hp} {u : V} {k : D} {x : Key} (r : RepI W H u k) (h : dKey k = some (.k x)) : u = kV x := by
  cases k with
  | int i => simp only [dKey, Option.some.injEq, DKey.k.injEq] at h; subst h; rw [r.int]; rfl
  | str s => simp only [dKey, Option.some.injEq, DKey.k.injEq] at h; subst h; rw [r.str]; rfl
  | tup ds => simp only [dKey] at h; cases q : scKeys ds <;> rw [q] at h <;> cases h
  | _ => simp [dKey] at h
theorem keyT_rep {W : Wd} {H : Hp} {u : V} {k : D} {x : List Key} (r : RepI W H u k) (h : dKey k = some (.t x)) : ∃ b, u = .ref b ∧ H b = some (.tup (x.map kV)) := by
  cases k with
  | int i => simp [dKey] at h
  | str s => simp [dKey] at h
  | tup ds =>
    simp only [dKey] at h
    cases q : scKeys ds with
    | none => rw [q] at h; cases h
    | some ks =>
      rw [q] at h; cases h
      obtain ⟨b, vs, rfl, hb, zb, rb⟩ := r.tup
      rw [scKeys_rep rb q] at hb
      exact ⟨b, rfl, hb⟩
  | _ => simp [dKey] at h
theorem put_core {W : Wd} {H : Hp} {S : Src} {a : Addr} {d k v d1 : D} {u x : V} {Q : Hp → Prop} (w : WRel W H S) (l : W.L a) (t : Top W H a d) (rk : RepI W H u k) (rv : Rep W.no W.sa H x v) (h : dPut d k v = some d1)
    (q : ∀ o, Mut (some o) → Top W (upd H a o) a d1 → Q (upd H a o)) : rSetAll (.ref a) u x H Q := by
  cases d with
  | lst xs =>
    simp only [dPut] at h
    cases k with
    | int i =>
      simp only at h
      cases e : ixN xs.length i with
      | none => rw [e] at h; cases h
      | some j =>
        rw [e] at h; cases h
        obtain ⟨us, hH, z, r⟩ := t
        exact .inl ⟨a, us, i, j, rfl, rk.int, hH, by rw [r.length]; exact e, q _ trivial ⟨_, upd_same, by rw [List.length_set]; exact z, (r.set rv j).step w (.wrote l)⟩⟩
    | _ => cases h
  | dct b kds =>
    cases b with
    | false =>
      simp only [dPut] at h
      cases e : dKey k with
      | none => rw [e] at h; cases h
      | some dk =>
        cases dk with
        | t _ => rw [e] at h; cases h
        | k y =>
          rw [e] at h
          simp only at h
          split at h
          · rename_i c
            cases h
            obtain ⟨us, hH, z, r⟩ := t
            have eu := key_rep rk e
            subst eu
            have zz : us.length < sizeLine := by rw [r.length]; exact c
            have z2 : (putK us y x).length ≤ sizeLine := Nat.le_trans (length_putK us y x) zz
            exact .inr ⟨a, _, rfl, .k (rd_exact (w.ml a l) hH) zz, q _ trivial ⟨_, .inl upd_same, z2, (r.put rv).step w (.wrote l)⟩⟩
          · cases h
    | true =>
      simp only [dPut] at h
      cases e : dKey k with
      | none => rw [e] at h; cases h
      | some dk =>
        cases dk with
        | k _ => rw [e] at h; cases h
        | t y =>
          rw [e] at h
          simp only at h
          split at h
          · rename_i c
            cases h
            obtain ⟨us, hH, z, r⟩ := t
            obtain ⟨b, rfl, hb⟩ := keyT_rep rk e
            have zz : us.length < sizeLine := by rw [r.length]; exact c
            have z2 : (putK us y x).length ≤ sizeLine := Nat.le_trans (length_putK us y x) zz
            exact .inr ⟨a, _, rfl, .t (rd_exact (w.ml a l) hH) hb zz, q _ trivial ⟨_, .inl upd_same, z2, (r.put rv).step w (.wrote l)⟩⟩
          · cases h
  | _ => exact t.elim
def sPut (i : Nat) (fk fv : Ev → M D) : Ev → M Out := fun ρ => fv ρ >>= fun v => fk ρ >>= fun k => M.of ((ownAt ρ i).bind fun d0 => (dPut d0 k v).map fun d1 => Out.nx (ρ.set i (some (.o d1))))
theorem ss_put (i : Nat) {X : Cx} {st : Stmt} {fk fv : Ev → M D} {te ti : TE} (q1 : TEv te fv) (q2 : TIv ti fk) (hp : PS X st (tAsg te (gSub (tVar i) ti rSetAll))) : SS X st (sPut i fk fv) := by
  refine ⟨_, hp, fun W σ H ρ S o S' E w er hf k => ?_⟩
  obtain ⟨v, S1, h1, hf⟩ := M.bind_eq hf
  obtain ⟨kk, S2, h2, hf⟩ := M.bind_eq hf
  obtain ⟨h3, rfl⟩ := M.of_eq hf
  obtain ⟨d0, g3, g4⟩ := Option.bind_eq_some_iff.mp h3
  obtain ⟨d1, g5, rfl⟩ := Option.map_eq_some_iff.mp g4
  obtain ⟨u, hv, a, rfl, l, t⟩ := er.get i _ (ownAt_eq g3)
  have n := w.ne a (.inr l)
  refine q1 W σ H ρ S v S1 _ w er h1 fun x H1 k1 w1 r1 => ⟨.ref a, hv, ?_⟩
  refine q2 W σ H1 ρ S1 kk S2 _ w1 (er.keep w k1) h2 fun y H2 k2 w2 r2 => ?_
  refine put_core w2 l ((t.keep w k1 n.1 n.2).keep w1 k2 n.1 n.2) r2 (r1.keep w1 k2) g5 fun o mu t1 => ?_
  exact k W σ _ ((KeepS.of (k1.trans k2)).trans w2 w (.wrote l)) (w2.wrote l mu) (((er.keep w k1).keep w1 k2).wrote w2 (ownAt_eq g3) hv l mu t1)

/-! ### several names at once -/
inductive Cells (W : Wd) (H : Hp) : (Addr → Prop) → List V → List Cell → Prop
  | nil {B : Addr → Prop} : Cells W H B [] []
  | s {B : Addr → Prop} {v : V} {d : D} {vs : List V} {cs : List Cell} : Rep W.no W.sa H v d → Cells W H B vs cs → Cells W H B (v :: vs) (.s d :: cs)
  | o {B : Addr → Prop} {p : Addr} {d : D} {vs : List V} {cs : List Cell} : W.L p → ¬ B p → Top W H p d → Cells W H (fun a => B a ∨ a = p) vs cs → Cells W H B (.ref p :: vs) (.o d :: cs)
def TPv (t : TA) (f : Ev → M (List Cell)) : Prop := ∀ (W : Wd) (σ : St) (H : Hp) (ρ : Ev) (S : Src) (cs : List Cell) (S' : Src) (Q : List V → Hp → Prop), WRel W H S → EnvRel W H σ ρ → f ρ S = some (cs, S') →
  (∀ vs W' H', KeepC W H W' H' → WRel W' H' S' → Cells W' H' W.L vs cs → Q vs H') → t σ H Q
structure EPs (X : Cx) (es : List Expr) (f : Ev → M (List Cell)) : Prop where ex : ∃ t, PA X es t ∧ TPv t f
def cNil : Ev → M (List Cell) := fun _ => pure []
def cS (f : Ev → M D) (g : Ev → M (List Cell)) : Ev → M (List Cell) := fun ρ => f ρ >>= fun d => g ρ >>= fun cs => pure (.s d :: cs)
def cO (f : Ev → M D) (g : Ev → M (List Cell)) : Ev → M (List Cell) := fun ρ => f ρ >>= fun d => g ρ >>= fun cs => pure (.o d :: cs)
theorem Cells.weak {W : Wd} {H : Hp} {B B' : Addr → Prop} {vs : List V} {cs : List Cell} (h : Cells W H B vs cs) (hb : ∀ a, B' a → B a) : Cells W H B' vs cs := by
  induction h generalizing B' with
  | nil => exact .nil
  | s r _ ih => exact .s r (ih hb)
  | o l n t _ ih => exact .o l (fun z => n (hb _ z)) t (ih fun a z => z.elim (fun z => .inl (hb a z)) .inr)
section
variable {X : Cx} {a : Expr} {es : List Expr} {f : Ev → M D} {g : Ev → M (List Cell)}
theorem ep_nil : EPs X [] cNil := ⟨_, pa_nil, fun W σ H ρ S cs S' Q w er hf k => by
  obtain ⟨rfl, rfl⟩ := M.pure_eq hf
  exact k [] W H .refl w .nil⟩
theorem ep_s (ha : EE X a f) (hb : EPs X es g) (hs : starEach (a :: es) X.env = (false, eval a X.env) :: starEach es X.env := by rfl) : EPs X (a :: es) (cS f g) := by
  obtain ⟨t, p, q⟩ := ha.ex
  obtain ⟨u, p2, q2⟩ := hb.ex
  refine ⟨_, pa_cons p p2 hs, fun W σ H ρ S cs S' Q w er hf k => ?_⟩
  obtain ⟨d, S1, e1, hf⟩ := M.bind_eq hf
  obtain ⟨cs', S2, e2, hf⟩ := M.bind_eq hf
  obtain ⟨rfl, rfl⟩ := M.pure_eq hf
  refine q W σ H ρ S d S1 _ w er e1 fun v H1 k1 w1 r1 => ?_
  exact q2 W σ H1 ρ S1 cs' S2 _ w1 (er.keep w k1) e2 fun vs W2 H2 k2 w2 r2 => k _ W2 H2 ((KeepC.of k1).trans w1 w k2) w2 (.s (r1.step w1 k2.s) r2)
theorem ep_o (ha : EN X a f) (hb : EPs X es g) (hs : starEach (a :: es) X.env = (false, eval a X.env) :: starEach es X.env := by rfl) : EPs X (a :: es) (cO f g) := by
  obtain ⟨t, p, q⟩ := ha.ex
  obtain ⟨u, p2, q2⟩ := hb.ex
  refine ⟨_, pa_cons p p2 hs, fun W σ H ρ S cs S' Q w er hf k => ?_⟩
  obtain ⟨d, S1, e1, hf⟩ := M.bind_eq hf
  obtain ⟨cs', S2, e2, hf⟩ := M.bind_eq hf
  obtain ⟨rfl, rfl⟩ := M.pure_eq hf
  refine q W σ H ρ S d S1 _ w er e1 fun b H1 hb k1 w1 t1 => ?_
  have kc : KeepC W H (W.add b) H1 := .add k1 hb
  have n := w1.ne b (.inr (.inr rfl))
  refine q2 (W.add b) σ H1 ρ S1 cs' S2 _ w1 (er.step w kc) e2 fun vs W2 H2 k2 w2 r2 => ?_
  refine k _ W2 H2 (kc.trans w1 w k2) w2 (.o (k2.lm b (.inr rfl)) (fun l => ?_) (t1.step w1 k2.s fun o h => k2.k b o n.1 n.2 h) (r2.weak fun a z => z))
  have m := w.mu b (.inr l)
  rw [hb] at m; exact m
end
def setAll : List Nat → List V → St → St
  | i :: is, v :: vs, σ => setAll is vs (σ.set i (some v))
  | _, _, σ => σ
def setAllC : List Nat → List Cell → Ev → Ev
  | i :: is, c :: cs, ρ => setAllC is cs (ρ.set i (some c))
  | _, _, ρ => ρ
theorem env_setAll {W : Wd} {H : Hp} {B : Addr → Prop} {vs : List V} {cs : List Cell} (h : Cells W H B vs cs) : ∀ {is : List Nat} {σ : St} {ρ : Ev}, EnvRel W H σ ρ → (∀ (j : Nat) (d : D) (a : Addr), ρ[j]? = some (some (.o d)) → σ[j]? = some (some (.ref a)) → B a) → is.length = vs.length → EnvRel W H (setAll is vs σ) (setAllC is cs ρ) := by
  induction h with
  | nil =>
    intro is σ ρ er _ hl
    cases is with
    | nil => exact er
    | cons _ _ => cases hl
  | @s B v d vs cs r _ ih =>
    intro is σ ρ er hB hl
    cases is with
    | nil => cases hl
    | cons i is =>
      refine ih (er.sets r) (fun j d' a h1 h2 => ?_) (by simpa using hl)
      by_cases e : i = j
      · subst e
        rw [List.getElem?_set] at h1
        simp only [if_true] at h1
        split at h1 <;> cases h1
      · rw [List.getElem?_set_ne e] at h1 h2
        exact hB j d' a h1 h2
  | @o B p d vs cs l n t _ ih =>
    intro is σ ρ er hB hl
    cases is with
    | nil => cases hl
    | cons i is =>
      refine ih (er.setc (c := .o d) ⟨p, rfl, l, t⟩ fun d' a e1 e2 j d'' hj h1 h2 => ?_) (fun j d' a h1 h2 => ?_) (by simpa using hl)
      · cases e2
        exact n (hB j d'' p h1 h2)
      · by_cases e : i = j
        · subst e
          rw [List.getElem?_set] at h2
          simp only [if_true] at h2
          split at h2
          · cases h2; exact .inr rfl
          · cases h2
        · rw [List.getElem?_set_ne e] at h1 h2
          exact .inl (hB j d' a h1 h2)
/-- names = values, as a reading -/
def tPars (is : List Nat) (ta : TA) : TS := fun E σ H => ta σ H fun vs H1 => vs.length = is.length ∧ ∀ H2, Same H1 H2 → E.nx (setAll is vs σ) H2
def sPar (is : List Nat) (f : Ev → M (List Cell)) : Ev → M Out := fun ρ => f ρ >>= fun cs => if cs.length = is.length then pure (.nx (setAllC is cs ρ)) else M.fail
theorem Cells.len {W : Wd} {H : Hp} {B : Addr → Prop} {vs : List V} {cs : List Cell} (h : Cells W H B vs cs) : vs.length = cs.length := by
  induction h with
  | nil => rfl
  | s _ _ ih => simp [ih]
  | o _ _ _ _ ih => simp [ih]
theorem TSv.par {is : List Nat} {ta : TA} {f : Ev → M (List Cell)} (q : TPv ta f) : TSv (tPars is ta) (sPar is f) := by
  intro W σ H ρ S o S' E w er hf k
  obtain ⟨cs, S1, e1, hf⟩ := M.bind_eq hf
  split at hf
  · rename_i hl
    obtain ⟨rfl, rfl⟩ := M.pure_eq hf
    refine q W σ H ρ S cs S1 _ w er e1 fun vs W1 H1 k1 w1 r1 => ?_
    have hv : vs.length = is.length := by rw [r1.len]; exact hl
    refine ⟨hv, fun H2 sm => ?_⟩
    have kk : Keep W1 H1 H2 := .of_same sm
    have w2 : WRel W1 H2 S1 := ⟨sm _ _ w1.hs, sm _ _ w1.hc, fun a h => by
      have m := w1.mu a h
      cases e : H1 a with
      | none => rw [e] at m; exact m.elim
      | some o => rw [sm _ _ e]; rw [e] at m; exact m, w1.ne, w1.ap, fun a h => by
      have m := w1.ml a h
      cases e : H1 a with
      | none => rw [e] at m; exact m.elim
      | some o => rw [sm _ _ e]; rw [e] at m; exact m⟩
    have er1 := env_setAll r1 (is := is) (er.step w k1) (fun j d a h1 h2 => by
      obtain ⟨v, h3, a', e3, l, _⟩ := er.get j _ h1
      rw [h2] at h3; cases h3
      cases e3
      exact l) hv.symm
    exact k W1 _ H2 (k1.s.trans w1 w (.of kk)) w2 (er1.keep w1 kk)
  · cases hf
section
variable {X : Cx} {st : Stmt} {es : List Expr} {f : Ev → M (List Cell)} {t : TS}
theorem ss_par (is : List Nat) (hes : EPs X es f) (hp : ∀ ta, PA X es ta → ∃ t, PS X st t ∧ ∀ E σ H, tPars is ta E σ H → t E σ H) : SS X st (sPar is f) := by
  obtain ⟨ta, p, q⟩ := hes.ex
  obtain ⟨t, p2, q2⟩ := hp ta p
  exact ⟨t, p2, fun W σ H ρ S o S' E w er hf k => q2 E σ H (TSv.par q W σ H ρ S o S' E w er hf k)⟩
end
end L2.EV

/-! EV, part I: a list of new lists, to which a loop appends. -/
namespace L2.EV
open PySem PySem.Spec PyProof.Rows

theorem M.bind_app {α β : Type} {m : M α} {f : α → M β} {s s1 : Src} {a : α} {r : Option (β × Src)} (h : m s = some (a, s1)) (h2 : f a s1 = r) : (m >>= f) s = r := by
  show (match m s with | none => none | some (a, s') => f a s') = r
  rw [h]; exact h2
theorem EnvRel.unk {W : Wd} {H : Hp} {σ : St} {ρ : Ev} {i : Nat} {o : Option V} (e : EnvRel W H σ ρ) : EnvRel W H (σ.set i o) (ρ.set i none) := by
  refine ⟨by simp [e.len], fun j c h => ?_, fun j k a d1 d2 h1 h2 h3 h4 => ?_⟩
  · by_cases hj : i = j
    · subst hj
      rw [List.getElem?_set] at h
      simp at h
    · rw [List.getElem?_set_ne hj] at h
      obtain ⟨u, h1, h2⟩ := e.get j c h
      exact ⟨u, by rw [List.getElem?_set_ne hj]; exact h1, h2⟩
  · have nj : i ≠ j := by
      rintro rfl; rw [List.getElem?_set] at h1; simp at h1
    have nk : i ≠ k := by
      rintro rfl; rw [List.getElem?_set] at h2; simp at h2
    rw [List.getElem?_set_ne nj] at h1 h3
    rw [List.getElem?_set_ne nk] at h2 h4
    exact e.sep j k a d1 d2 h1 h2 h3 h4

/-- at a stands an owned list of owned objects, all different -/
structure NestRel (W : Wd) (H : Hp) (a : Addr) (rs : List Addr) (ds : List D) : Prop where
  la : W.L a
  ha : H a = some (.lst (rs.map V.ref))
  hz : rs.length ≤ sizeLine
  hl : rs.length = ds.length
  row : ∀ (i : Nat) (r : Addr) (d : D), rs[i]? = some r → ds[i]? = some d → W.L r ∧ Top W H r d
  nd : rs.Nodup
  na : a ∉ rs
def noOwn (ρ : Ev) : Bool := ρ.all fun c => match c with
  | some (.o _) => false
  | _ => true
theorem noOwn_get {ρ : Ev} {j : Nat} {d : D} (h : noOwn ρ = true) : ρ[j]? ≠ some (some (.o d)) := fun e => by
  have := List.all_eq_true.mp h _ (List.mem_of_getElem? e)
  simp at this
section
variable {W W' : Wd} {H H' : Hp} {S S' : Src} {a p : Addr} {rs : List Addr} {ds : List D} {σ : St} {ρ : Ev}
theorem NestRel.rowL (n : NestRel W H a rs ds) {r : Addr} (h : r ∈ rs) : W.L r ∧ H r ≠ none := by
  obtain ⟨i, hi⟩ := List.getElem?_of_mem h
  have hlt : i < ds.length := by rw [← n.hl]; exact (List.getElem?_eq_some_iff.mp hi).1
  obtain ⟨l, t⟩ := n.row i r ds[i] hi (List.getElem?_eq_getElem hlt)
  exact ⟨l, t.ne0⟩
theorem NestRel.step (w : WRel W H S) (k : KeepC W H W' H') (n : NestRel W H a rs ds) : NestRel W' H' a rs ds := by
  have na := w.ne a (.inr n.la)
  refine ⟨k.lm a n.la, k.k a _ na.1 na.2 n.ha, n.hz, n.hl, fun i r d h1 h2 => ?_, n.nd, n.na⟩
  obtain ⟨l, t⟩ := n.row i r d h1 h2
  have nr := w.ne r (.inr l)
  exact ⟨k.lm r l, t.step w k.s fun o h => k.k r o nr.1 nr.2 h⟩
theorem NestRel.keep (w : WRel W H S) (k : Keep W H H') (n : NestRel W H a rs ds) : NestRel W H' a rs ds := n.step w (.of k)
theorem NestRel.push {d : D} (w : WRel W H S) (n : NestRel W H a rs ds) (l : W.L p) (hp : p ∉ rs) (hpa : p ≠ a) (t : Top W H p d) (z : rs.length < sizeLine) : NestRel W (upd H a (.lst (rs.map V.ref ++ [.ref p]))) a (rs ++ [p]) (ds ++ [d]) := by
  have ks : KeepS W H W (upd H a (.lst (rs.map V.ref ++ [.ref p]))) := .wrote n.la
  refine ⟨n.la, by rw [upd_same]; simp, by rw [List.length_append]; simp; omega, by simp [n.hl], fun i r d' h1 h2 => ?_, ?_, ?_⟩
  · by_cases hi : i < rs.length
    · rw [List.getElem?_append_left hi] at h1
      rw [List.getElem?_append_left (by rw [← n.hl]; exact hi)] at h2
      obtain ⟨l', t'⟩ := n.row i r d' h1 h2
      have hr : r ≠ a := fun e => n.na (by rw [← e]; exact List.mem_of_getElem? h1)
      exact ⟨l', t'.step w ks fun o h => by rw [upd_ne hr]; exact h⟩
    · rw [List.getElem?_append_right (by omega)] at h1
      rw [List.getElem?_append_right (by rw [← n.hl]; omega), ← n.hl] at h2
      rw [List.getElem?_singleton] at h1 h2
      split at h1
      · rename_i c
        cases h1
        rw [if_pos c] at h2
        cases h2
        exact ⟨l, t.step w ks fun o h => by rw [upd_ne hpa]; exact h⟩
      · cases h1
  · rw [List.nodup_append]
    refine ⟨n.nd, by simp, fun x hx y hy => ?_⟩
    rw [List.mem_singleton] at hy
    subst hy
    exact fun e => hp (by rw [← e]; exact hx)
  · rw [List.mem_append, List.mem_singleton]
    exact fun h => h.elim n.na fun e => hpa e.symm
/-- a row is written -/
theorem NestRel.wrote {i : Nat} {r : Addr} {d' : D} {o : HO} (w : WRel W H S) (n : NestRel W H a rs ds) (hi : rs[i]? = some r) (t : Top W (upd H r o) r d') : NestRel W (upd H r o) a rs (ds.set i d') := by
  have hlt : i < ds.length := by rw [← n.hl]; exact (List.getElem?_eq_some_iff.mp hi).1
  have hm : r ∈ rs := List.mem_of_getElem? hi
  have l : W.L r := (n.rowL hm).1
  have ks : KeepS W H W (upd H r o) := .wrote l
  have nra : a ≠ r := fun e => n.na (by rw [e]; exact hm)
  refine ⟨n.la, by rw [upd_ne nra]; exact n.ha, n.hz, by simp [n.hl], fun j q d h1 h2 => ?_, n.nd, n.na⟩
  by_cases e : i = j
  · subst e
    rw [hi] at h1
    cases h1
    rw [List.getElem?_set_self hlt] at h2
    cases h2
    exact ⟨l, t⟩
  · rw [List.getElem?_set_ne e] at h2
    obtain ⟨l', t'⟩ := n.row j q d h1 h2
    have hq : q ≠ r := fun z => by
      subst z
      have h1' := (List.getElem?_eq_some_iff.mp hi)
      have h2' := (List.getElem?_eq_some_iff.mp h1)
      have pw := List.pairwise_iff_getElem.mp n.nd
      rcases Nat.lt_or_gt_of_ne e with z | z
      · exact pw i j h1'.1 h2'.1 z (h1'.2.trans h2'.2.symm)
      · exact pw j i h2'.1 h1'.1 z (h2'.2.trans h1'.2.symm)
    exact ⟨l', t'.step w ks fun o h => by rw [upd_ne hq]; exact h⟩
theorem EnvRel.noOwn_wrote {r : Addr} {o : HO} (er : EnvRel W H σ ρ) (w : WRel W H S) (hn : noOwn ρ = true) (l : W.L r) : EnvRel W (upd H r o) σ ρ := by
  refine ⟨er.len, fun j c h => ?_, er.sep⟩
  obtain ⟨v, h1, h2⟩ := er.get j c h
  refine ⟨v, h1, ?_⟩
  cases c with
  | s d => exact Rep.step w (.wrote l) h2
  | b d =>
    rcases h2 with h2 | ⟨b, e, n1, n2, n3, t⟩
    · exact .inl (h2.step w (.wrote l))
    · exact .inr ⟨b, e, n1, n2, n3, t.step w (.wrote l) fun o' h => by rw [upd_ne (fun z => n3 (by rw [z]; exact l))]; exact h⟩
  | o d => exact absurd h (noOwn_get hn)
theorem NestRel.freeze (w : WRel W H S) (er : EnvRel W H σ ρ) (hn : noOwn ρ = true) (n : NestRel W H a rs ds) : ∃ W', KeepS W H W' H ∧ WRel W' H S ∧ EnvRel W' H σ ρ ∧ Rep W'.no W'.sa H (.ref a) (.lst ds) := by
  let W' : Wd := { W with L := fun x => W.L x ∧ x ≠ a ∧ x ∉ rs }
  have sub : ∀ x, W'.no x → W.no x := fun x h => by
    rcases h with h | h | h | h
    · exact .inl h
    · exact .inr (.inl h.1)
    · exact .inr (.inr (.inl h))
    · exact .inr (.inr (.inr h))
  have out : ∀ x, W.L x → (x = a ∨ x ∈ rs) → ¬ W'.no x := fun x l h z => by
    have q := w.ne x (.inr l)
    rcases z with z | z | z | z
    · exact w.ap x l z
    · rcases h with h | h
      · exact z.2.1 h
      · exact z.2.2 h
    · exact q.1 z
    · exact q.2 z
  have ks : KeepS W H W' H := ⟨rfl, rfl, rfl, fun x h => .inl h.1, fun _ _ _ _ _ h => h⟩
  refine ⟨W', ks, ⟨w.hs, w.hc, fun x h => w.mu x (h.elim .inl fun h => .inr h.1), fun x h => w.ne x (h.elim .inl fun h => .inr h.1), fun x h => w.ap x h.1, fun x h => w.ml x h.1⟩, ⟨er.len, fun j c h => ?_, er.sep⟩, ?_⟩
  · obtain ⟨v, h1, h2⟩ := er.get j c h
    refine ⟨v, h1, ?_⟩
    cases c with
    | s d => exact Rep.weakN sub h2
    | b d =>
      rcases h2 with h2 | ⟨b, e, n1, n2, n3, t⟩
      · exact .inl (h2.weakN sub)
      · exact .inr ⟨b, e, n1, n2, fun z => n3 z.1, t.step w ks fun o h => h⟩
    | o d => exact absurd h (noOwn_get hn)
  · refine .lst n.ha (out a n.la (.inl rfl)) (by rw [List.length_map]; exact n.hz) (.of (by rw [List.length_map]; exact n.hl) fun i v d h1 h2 => ?_)
    rw [List.getElem?_map] at h1
    cases e : rs[i]? with
    | none => rw [e] at h1; cases h1
    | some r =>
      rw [e] at h1; cases h1
      obtain ⟨l, t⟩ := n.row i r d e h2
      exact t.rep (out r l (.inr (List.mem_of_getElem? e))) sub
end

/-! ### the making -/
def tN (f : Ev → M D) : TE := fun σ H Q => ∃ (W : Wd) (ρ : Ev) (S : Src) (d : D) (S' : Src), WRel W H S ∧ EnvRel W H σ ρ ∧ f ρ S = some (d, S') ∧ ∀ p H', H p = none → Keep W H H' → WRel (W.add p) H' S' → Top (W.add p) H' p d → Q (.ref p) H'
theorem tN_v (f : Ev → M D) : TNv (tN f) f := fun W σ H ρ S d S' Q w er hf k => ⟨W, ρ, S, d, S', w, er, hf, k⟩
theorem EN.max {X : Cx} {e : Expr} {f : Ev → M D} (h : EN X e f) : PE X e (tN f) := by
  obtain ⟨t, p, q⟩ := h.ex
  exact ⟨fun pins s σ H Q I ⟨W, ρ, S, d, S', w, er, hf, k⟩ => p.run pins s σ H Q I (q W σ H ρ S d S' Q w er hf k)⟩
/-- a new list of new lists -/
def TNNv (t : TE) (f : Ev → M (List D)) : Prop := ∀ (W : Wd) (σ : St) (H : Hp) (ρ : Ev) (S : Src) (ds : List D) (S' : Src) (Q : VK), WRel W H S → EnvRel W H σ ρ → f ρ S = some (ds, S') →
  (∀ p rs W' H', H p = none → KeepC W H W' H' → WRel W' H' S' → NestRel W' H' p rs ds → Q (.ref p) H') → t σ H Q
def eLcN (vs : List Nat) (fi : Ev → M (List D)) (g : D → Ev → Option Ev) (ft : Ev → M Bool) (fe : Ev → M D) : Ev → M (List D) := fun ρ => fi ρ >>= fun ds => compL g ft fe ds (wipeE ρ vs)
section
variable {X : Cx} {elt tg iter : Expr} {ifs : List Expr} {scope : Scope} {own : List (Str × Nat)} {pos : Pos} {fi : Ev → M (List D)} {g : D → Ev → Option Ev} {ft : Ev → M Bool} {fe : Ev → M D} {wi : TI} {tgt : TG} {tt : TT} {te : TE} {vs : List Nat}
theorem TNNv.lc (hi : TIc wi fi) (hg : TGv vs tgt g) (ht : TBv tt ft) (he : TNv te fe) : TNNv (tLc wi tgt tt te vs) (eLcN vs fi g ft fe) := by
  intro W σ H ρ S ys S' Q w er hf k
  obtain ⟨ds, S1, h1, h2⟩ := M.bind_eq hf
  refine hi W σ H ρ S ds S1 _ w er h1 fun J H1 k1 w1 hz y => ?_
  intro D hD
  have hD0 : H D = none := keep_none w1 k1 hD
  have wD : WRel (W.add D) (upd H1 D (.lst [])) S1 := w1.own hD trivial
  refine lc_it (Qd := fun H => Q (.ref D) H) y.walk (fun i H2 => ∃ (W2 : Wd) (S3 : Src) (rs : List Addr) (zs rest : List EV.D), KeepC W H1 W2 H2 ∧ WRel W2 H2 S3 ∧ NestRel W2 H2 D rs zs ∧ rs.length ≤ i ∧
    compL g ft fe (ds.drop i) (wipeE ρ vs) S3 = some (rest, S') ∧ zs ++ rest = ys) ⟨W.add D, S1, [], [], ys, .add (keep_laid hD) hD, wD, ⟨.inr rfl, upd_same, Nat.zero_le _, rfl, fun i r d h => by simp at h, .nil, by simp⟩, Nat.le_refl _, h2, rfl⟩ ?_ ?_ ?_
  · rintro i H2 hi ⟨W2, S3, rs, zs, rest, kc, w2, _⟩
    exact ⟨W2, S3, kc, w2⟩
  · rintro i x H2 H3 hi ⟨W2, S3, rs, zs, rest, kc, w2, nr, hl, hr, hy⟩ hY
    have hdd : ds.drop i = ds[i] :: ds.drop (i + 1) := List.drop_eq_getElem_cons hi
    rw [hdd] at hr
    obtain ⟨ρ1, S4, e1, hr⟩ := M.bind_eq hr
    obtain ⟨e0, rfl⟩ := M.of_eq e1
    obtain ⟨b, S5, e2, hr⟩ := M.bind_eq hr
    obtain ⟨k3, w3, r3⟩ := hY ds[i] W2 S3 (List.getElem?_eq_getElem hi) kc w2
    have er2 : EnvRel W2 H3 (wipe σ vs) (wipeE ρ vs) := ((er.keep w k1).step w1 kc).wipe vs |>.keep w2 k3
    have kc3 : KeepC W H1 W2 H3 := kc.trans w2 w1 (.of k3)
    have nr3 := nr.keep w2 k3
    refine hg W2 H3 S3 x ds[i] (wipe σ vs) (wipeE ρ vs) ρ1 _ w3 er2 r3 e0 fun σ2 er3 hw => ⟨hw.trans (wipe_wipe σ vs), ?_⟩
    refine ht W2 σ2 H3 ρ1 S3 b S5 _ w3 er3 e2 fun H4 k4 w4 => ?_
    have kc4 : KeepC W H1 W2 H4 := kc3.trans w3 w1 (.of k4)
    have nr4 := nr3.keep w3 k4
    cases b with
    | false =>
      rw [if_neg Bool.false_ne_true] at hr ⊢
      exact ⟨W2, S5, rs, zs, rest, kc4, w4, nr4, by omega, hr, hy⟩
    | true =>
      rw [if_pos rfl] at hr ⊢
      obtain ⟨z, S6, e3, hr⟩ := M.bind_eq hr
      obtain ⟨rest', S7, e4, hr⟩ := M.bind_eq hr
      obtain ⟨rfl, rfl⟩ := M.pure_eq hr
      refine he W2 σ2 H4 ρ1 S5 z S6 _ w4 (er3.keep w3 k4) e3 fun p H5 hp k5 w5 t5 => ?_
      have kcp : KeepC W2 H4 (W2.add p) H5 := .add k5 hp
      have kc5 : KeepC W H1 (W2.add p) H5 := kc4.trans w4 w1 kcp
      have nr5 : NestRel (W2.add p) H5 D rs zs := nr4.step w4 kcp
      have hpr : p ∉ rs := fun h => (nr4.rowL h).2 hp
      have hpD : p ≠ D := by rintro rfl; rw [nr4.ha] at hp; cases hp
      have z5 : rs.length < sizeLine := by omega
      refine ⟨rs.map V.ref, nr5.ha, by rw [List.length_map]; exact z5, W2.add p, S6, rs ++ [p], zs ++ [z], rest', ⟨kc5.C, kc5.sa, kc5.ca, kc5.lm, kc5.ln, fun a o n1 n2 h => ?_⟩, w5.wrote nr5.la trivial, nr5.push w5 (.inr rfl) hpr hpD t5 z5, by rw [List.length_append]; simp; omega, e4, by rw [List.append_assoc]; exact hy⟩
      have : a ≠ D := by rintro rfl; rw [hD] at h; cases h
      rw [upd_ne this]
      exact kc5.k a o n1 n2 h
  · rintro H2 ⟨W2, S3, rs, zs, rest, kc, w2, nr, hl, hr, hy⟩
    rw [List.drop_length] at hr
    obtain ⟨rfl, rfl⟩ := M.pure_eq hr
    rw [List.append_nil] at hy
    subst hy
    exact k D rs W2 H2 hD0 ((KeepC.of k1).trans w1 w kc) w2 nr
end

/-! ### what the loop does -/
def TSN (i : Nat) (t : TS) (h : Ev → List D → M (List D)) : Prop := ∀ (W : Wd) (σ : St) (H : Hp) (ρ : Ev) (S : Src) (a : Addr) (rs : List Addr) (ds ds' : List D) (S' : Src) (E : Ends), WRel W H S → EnvRel W H σ ρ → σ[i]? = some (some (.ref a)) → NestRel W H a rs ds → h ρ ds S = some (ds', S') →
  (∀ H', KeepS W H W H' → WRel W H' S' → EnvRel W H' σ ρ → NestRel W H' a rs ds' → E.nx σ H') → t E σ H
structure SN (X : Cx) (i : Nat) (st : Stmt) (h : Ev → List D → M (List D)) : Prop where ex : ∃ t, PS X st t ∧ TSN i t h
structure SNs (X : Cx) (i : Nat) (sts : List Stmt) (h : Ev → List D → M (List D)) : Prop where ex : ∃ t, PSs X sts t ∧ TSN i t h
def nApp (fa fb : Ev → M D) : Ev → List D → M (List D) := fun ρ ds => fa ρ >>= fun k => fb ρ >>= fun y => M.of (if noOwn ρ = true then match k with
  | .int i => (ixN ds.length i).bind fun j => (ds[j]?).bind fun d => (hAppend d [y]).map fun p => ds.set j p.1
  | _ => none else none)
def nSeq (h1 h2 : Ev → List D → M (List D)) : Ev → List D → M (List D) := fun ρ ds => h1 ρ ds >>= fun ds1 => h2 ρ ds1
section
variable {X : Cx} {i : Nat} {st : Stmt} {sts : List Stmt} {h h' : Ev → List D → M (List D)}
theorem sns_one (a : SN X i st h) : SNs X i [st] h := by
  obtain ⟨t, p, q⟩ := a.ex
  exact ⟨t, pss_one p, q⟩
theorem sns_cons (a : SN X i st h) (b : SNs X i sts h') : SNs X i (st :: sts) (nSeq h h') := by
  obtain ⟨t, p, q⟩ := a.ex
  obtain ⟨u, p2, q2⟩ := b.ex
  refine ⟨_, pss_cons p p2, fun W σ H ρ S a rs ds ds' S' E w er hs n hf k => ?_⟩
  obtain ⟨d1, S1, e1, hf⟩ := M.bind_eq hf
  refine q W σ H ρ S a rs ds d1 S1 _ w er hs n e1 fun H1 k1 w1 er1 n1 => ?_
  exact q2 W σ H1 ρ S1 a rs d1 ds' S' _ w1 er1 hs n1 hf fun H2 k2 w2 er2 n2 => k H2 (k1.trans w1 w k2) w2 er2 n2
theorem sn_app {x : Str} {ea eb : Expr} {fa fb : Ev → M D} {px ps pa pc pst : Pos} (hN : X.N[i]? = some x := by rfl) (ha : EE X ea fa) (hb : EE X eb fb) (hv : Vis X.env.scope x := by first | exact Or.inl rfl | exact Or.inr (Or.inl rfl) | exact Or.inr (Or.inr rfl)) (hd : (x == ("__debug__" : Str)) = false := by decide)
    (hcd : (x == ("__classdict__" : Str)) = false := by decide) (hs : PlainIx ea := by intro _ _; rfl) (hbase : attributeBase (.Subscript (.Name x px) ea ps) "append" X.env (eval (.Subscript (.Name x px) ea ps) X.env) = eval (.Subscript (.Name x px) ea ps) X.env := by rfl)
    (hfew : ((backTo pc (starEach [eb] X.env)).all (fun x => !x.1) && (backToKw pc (keywordEach [] X.env)).all (fun x => x.1.isSome)
      && decide ([eb].length + ([] : List Keyword).length + (if ([] : List Keyword).isEmpty then 0 else 1) < 30)) = true := by rfl)
    (hline : (pa.endLine == pc.line) = true := by rfl) (hst : starEach [eb] X.env = (false, eval eb X.env) :: starEach [] X.env := by rfl) (hplain : (backTo pc (starEach [] X.env)).any (·.1) = false := by rfl)
    (hsw : swapsWith (.Call (.Attribute (.Subscript (.Name x px) ea ps) "append" pa) [eb] [] pc) none pst.line X.env = pure false := by rfl) :
    SN X i (.Expr (.Call (.Attribute (.Subscript (.Name x px) ea ps) "append" pa) [eb] [] pc) pst) (nApp fa fb) := by
  have pb := (ea_s hb ea_nil hst).max
  refine ⟨_, ps_expr (pe_bm PySem.F.plainAttrs_list PySem.F.slot_list_append PySem.F.type_list_append mt_append (pe_ix ix_list (pe_var hN hv hd hcd) ha.max hs) pb hbase hfew hline hst hplain) hsw, fun W σ H ρ S a rs ds ds' S' E w er hsi n hf k => ?_⟩
  obtain ⟨kd, S1, e1, hf⟩ := M.bind_eq hf
  obtain ⟨y, S2, e2, hf⟩ := M.bind_eq hf
  obtain ⟨e3, rfl⟩ := M.of_eq hf
  split at e3
  · rename_i ho
    split at e3
    · rename_i j _
      obtain ⟨m, g1, e3⟩ := Option.bind_eq_some_iff.mp e3
      obtain ⟨d, g2, e3⟩ := Option.bind_eq_some_iff.mp e3
      obtain ⟨⟨d1, d2⟩, g3, rfl⟩ := Option.map_eq_some_iff.mp e3
      refine ⟨.ref a, hsi, ⟨W, ρ, S, _, S1, w, er, e1, fun v H1 k1 w1 r1 => ?_⟩⟩
      have n1 := n.keep w k1
      have er1 := er.keep w k1
      have hm : m < rs.length := by rw [n.hl]; exact (List.getElem?_eq_some_iff.mp g2).1
      have hrm : rs[m]? = some rs[m] := List.getElem?_eq_getElem hm
      obtain ⟨l, t⟩ := n1.row m rs[m] d hrm g2
      refine ⟨a, rs.map V.ref, j, .ref rs[m], rfl, r1.i.int, .of n1.ha, ?_, ?_⟩
      · unfold atI
        rw [List.length_map, n.hl, g1]
        show (rs.map V.ref)[m]? = _
        rw [List.getElem?_map, hrm]
        rfl
      · refine ⟨ty_append W H1 rs[m] d [y] _ (w1.ml _ l) t g3, ⟨W, ρ, S1, [y], S2, w1, er1, ?_, fun vs H2 k2 w2 r2 => ?_⟩⟩
        · exact M.bind_app e2 rfl
        · have nr := w1.ne _ (.inr l)
          have n2 := n1.keep w1 k2
          refine mv_append W H2 S2 rs[m] d vs [y] d1 d2 _ w2 l (t.keep w1 k2 nr.1 nr.2) r2 g3 fun o v mu t1 _ => ?_
          exact k _ ((KeepS.of (k1.trans k2)).trans w2 w (.wrote l)) (w2.wrote l mu) ((er1.keep w1 k2).noOwn_wrote w2 ho l) (n2.wrote w2 hrm t1)
    · cases e3
  · cases e3
end
def forN (g : D → Ev → Option Ev) (h : Ev → List D → M (List D)) : List D → Ev → List D → M (Ev × List D)
  | [], ρ, rows => pure (ρ, rows)
  | d :: ds, ρ, rows => M.of (g d ρ) >>= fun ρ1 => h ρ1 rows >>= fun rows1 => forN g h ds ρ1 rows1
/-- name = [[..] for ..]; for ..: name[..].append(..) -/
def sNest (i : Nat) (f0 : Ev → M (List D)) (fi : Ev → M (List D)) (g : D → Ev → Option Ev) (h : Ev → List D → M (List D)) (fr : Ev → M Out) : Ev → M Out := fun ρ => M.of (if i < ρ.length then some () else none) >>= fun _ => f0 ρ >>= fun rows => fi (ρ.set i none) >>= fun ds => forN g h ds (ρ.set i none) rows >>= fun p =>
  if noOwn p.1 = true then fr (p.1.set i (some (.s (.lst p.2)))) else M.fail
theorem wipe_get (σ σ' : St) (i : Nat) : ∀ (is : List Nat), i ∉ is → wipe σ' is = wipe σ is → σ'[i]? = σ[i]? := by
  have key : ∀ (σ : St) (is : List Nat), i ∉ is → (wipe σ is)[i]? = σ[i]? := fun σ is => by
    induction is with
    | nil => intro _; rfl
    | cons j js ih =>
      intro h
      show ((wipe σ js).set j none)[i]? = _
      rw [List.getElem?_set_ne (fun e => h (by rw [e]; exact List.mem_cons_self))]
      exact ih fun z => h (List.mem_cons_of_mem _ z)
  intro is h e
  rw [← key σ' is h, ← key σ is h, e]
section
variable {X : Cx} {elt tg iter tg2 iter2 : Expr} {ifs : List Expr} {scope : Scope} {own : List (Str × Nat)} {pos spos fpos : Pos} {fi fi2 : Ev → M (List D)} {g g2 : D → Ev → Option Ev} {ft : Ev → M Bool} {fe : Ev → M D} {h : Ev → List D → M (List D)} {fr : Ev → M Out} {body rest : List Stmt} {is : List Nat}
theorem ss_nest {i : Nat} {y : Str} {py : Pos} (hN : X.N.Nodup) (hc : X.calm = true) (ok : blkC X.N X.env.scope scope own = true) (hi : ItC X tg iter fi)
    (hg : ∀ (s : Shared) (H : Hp) (C : Addr) (cl : List (Str × Addr)) (fp : List Addr), EG (X.blk s H scope (compEnvC scope cl C X.env) fp) tg (own.map (·.2)) g)
    (ht : ∀ (s : Shared) (H : Hp) (C : Addr) (cl : List (Str × Addr)) (fp : List Addr), ETs (X.blk s H scope (compEnvC scope cl C X.env) fp) ifs ft)
    (he : ∀ (s : Shared) (H : Hp) (C : Addr) (cl : List (Str × Addr)) (fp : List Addr), EN (X.blk s H scope (compEnvC scope cl C X.env) fp) elt fe)
    (hsw : swapsWith (.ListComp elt [⟨tg, iter, ifs, 0⟩] scope pos) (some (.Name y py)) spos.line X.env = pure true)
    (hp : PassesOwn (model X.prog X.w) X.A X.env X.xe) (hi2 : ItS X tg2 iter2 fi2) (hg2 : EG X tg2 is g2) (hb : SNs X i body h) (hr : SSs X rest fr)
    (hy : X.N[i]? = some y := by rfl) (hyl : X.env.scope.names.lookup y = some .local := by rfl) (hni : i ∉ is := by decide) (hs : ∀ x, foldedSetIterable iter X.env x = pure x := by intro _; rfl) (hs2 : ∀ x, foldedSetIterable iter2 X.env x = pure x := by intro _; rfl) :
    SSs X (.Assign [.Name y py] (.ListComp elt [⟨tg, iter, ifs, 0⟩] scope pos) spos :: .For tg2 iter2 body [] fpos :: rest) (sNest i (eLcN (own.map (·.2)) fi g ft fe) fi2 g2 h fr) := by
  obtain ⟨wi, p1, q1⟩ := hi.ex
  have pa := ps_setLc (spos := spos) (pos := pos) hc hN hy hyl hsw p1 (blkOk_by ok) (fun s H C cl fp => (hg s H C cl fp).max) (fun s H C cl fp => (ht s H C cl fp).max) (fun s H C cl fp => (he s H C cl fp).max) hs
  have qa : TNNv _ (eLcN (own.map (·.2)) fi g ft fe) := TNNv.lc q1 (tG_v _ _) (tT_v _) (tN_v _)
  obtain ⟨wi2, p2, q2⟩ := hi2.ex
  obtain ⟨tgt, p3, q3⟩ := hg2.ex
  obtain ⟨tb, p4, q4⟩ := hb.ex
  obtain ⟨tr, p5, q5⟩ := hr.ex
  refine ⟨_, pss_cons pa (pss_cons (ps_for hp hc p2 p3 p4 hs2) p5), fun W σ H ρ S o S' E w er hf k => ?_⟩
  obtain ⟨_, S0, e0, hf⟩ := M.bind_eq hf
  obtain ⟨e0, rfl⟩ := M.of_eq e0
  have hil : i < ρ.length := by
    split at e0
    · assumption
    · cases e0
  obtain ⟨rows, S1, e1, hf⟩ := M.bind_eq hf
  obtain ⟨ds, S2, e2, hf⟩ := M.bind_eq hf
  obtain ⟨⟨ρ9, rows9⟩, S3, e3, hf⟩ := M.bind_eq hf
  split at hf
  · rename_i ho
    show tLc wi (tG (own.map (·.2)) g) (tT ft) (tN fe) (own.map (·.2)) σ H (fun x H1 => tFor wi2 tgt tb { E with nx := tr E } (σ.set i (some x)) H1)
    refine qa W σ H ρ S rows S1 _ w er e1 fun a rs W1 H1 ha k1 w1 n1 => ?_
    have hilt : i < σ.length := by rw [er.len]; exact hil
    have er1 : EnvRel W1 H1 (σ.set i (some (.ref a))) (ρ.set i none) := (er.step w k1).unk
    refine q2 W1 (σ.set i (some (.ref a))) H1 (ρ.set i none) S1 ds S2 _ w1 er1 e2 fun J H2 k2 w2 y => ?_
    have kA : KeepS W H W1 H2 := k1.s.trans w1 w (.of k2)
    refine for_it y.walk (fun m σ2 H3 => ∃ (S4 : Src) (ρ2 : Ev) (rows2 : List D), KeepS W1 H2 W1 H3 ∧ WRel W1 H3 S4 ∧ EnvRel W1 H3 σ2 ρ2 ∧ σ2[i]? = some (some (.ref a)) ∧ NestRel W1 H3 a rs rows2 ∧ forN g2 h (ds.drop m) ρ2 rows2 S4 = some ((ρ9, rows9), S3)) ⟨S2, _, rows, .refl, w2, er1.keep w1 k2, List.getElem?_set_self hilt, n1.keep w1 k2, e3⟩ ?_ ?_ ?_
    · rintro m σ2 H3 hm ⟨S4, ρ2, rows2, ks, w3, _⟩
      exact ⟨W1, S4, ks, w3⟩
    · rintro m x σ2 H3 H4 hm ⟨S4, ρ2, rows2, ks, w3, er3, hsi, n3, hr⟩ hY
      have hdd : ds.drop m = ds[m] :: ds.drop (m + 1) := List.drop_eq_getElem_cons hm
      rw [hdd] at hr
      obtain ⟨ρ3, S5, g1, hr⟩ := M.bind_eq hr
      obtain ⟨g0, rfl⟩ := M.of_eq g1
      obtain ⟨rows3, S6, g3, hr⟩ := M.bind_eq hr
      obtain ⟨k4, w4, r4⟩ := hY ds[m] W1 S4 (List.getElem?_eq_getElem hm) ks w3
      refine q3 W1 H4 S4 x ds[m] σ2 ρ2 ρ3 _ w4 (er3.keep w3 k4) r4 g0 fun σ3 er4 hw => ?_
      have hsi3 : σ3[i]? = some (some (.ref a)) := (wipe_get σ2 σ3 i is hni hw).trans hsi
      refine q4 W1 σ3 H4 ρ3 S4 a rs rows2 rows3 S6 _ w4 er4 hsi3 (n3.keep w3 k4) g3 fun H5 k5 w5 er5 n5 => ?_
      exact ⟨S6, ρ3, rows3, (ks.trans w3 w2 (.of k4)).trans w4 w2 k5, w5, er5, hsi3, n5, hr⟩
    · rintro σ2 H3 ⟨S4, ρ2, rows2, ks, w3, er3, hsi, n3, hr⟩
      rw [List.drop_length] at hr
      obtain ⟨e4, rfl⟩ := M.pure_eq hr
      cases e4
      obtain ⟨W4, kf, wf, ef, rf⟩ := n3.freeze w3 er3 ho
      have ef2 : EnvRel W4 H3 σ2 (ρ9.set i (some (.s (.lst rows9)))) := by
        have q := ef.sets (i := i) rf
        have e : σ2.set i (some (.ref a)) = σ2 := by
          apply List.ext_getElem?
          intro j
          by_cases hj : i = j
          · subst hj
            rw [hsi, List.getElem?_set_self (List.getElem?_eq_some_iff.mp hsi).1]
          · rw [List.getElem?_set_ne hj]
        rw [e] at q
        exact q
      exact q5 W4 σ2 H3 _ S4 o S' E wf ef2 hf (k.step w wf ((kA.trans w2 w ks).trans w3 w kf))
  · cases hf
end
end L2.EV

/-! EV, part J: d.update(e), repr(x). -/
namespace L2.EV
open PySem PySem.Spec PyProof.Rows

/-! ### update -/
def intsOf : List Key → Option (List Int)
  | [] => some []
  | .inl i :: ks => (intsOf ks).map (i :: ·)
  | _ => none
def hashI (is : List Int) : Int := reduceHash (Builtin.Tuple.tupleHashOf (is.map hashInt))
/-- keys of ints, their hashes all different -/
def apartT (ks : List (List Key)) : Bool := match ks.mapM intsOf with
  | some iss => decide (iss.map hashI).Nodup
  | none => false
def rUpd (X : Cx) : V → List V → Hp → VK → Prop := fun x vs H Q => ∃ a b, x = V.ref a ∧ vs = [V.ref b] ∧ a ≠ b ∧
  ((∃ kvs more, H a = some (.dK kvs) ∧ Rd H b (.dK more) ∧ kvs.length + more.length ≤ sizeLine ∧ Q .non (upd H a (.dK (mergeK kvs more)))) ∨
   (∃ kvs more, H a = some (.dT kvs) ∧ Rd H b (.dT more) ∧ kvs.length + more.length ≤ sizeLine ∧ (kvs ≠ [] ∨ apartT (more.map (·.1)) = true) ∧ Q .non (upd H a (.dT (mergeT kvs more)))))
theorem intsOf_hash (w : World) : ∀ {ks : List Key} {is : List Int}, intsOf ks = some is → ks.map (keyH w) = is.map hashInt
  | [], _, h => by cases h; rfl
  | .inl i :: ks, _, h => by
    obtain ⟨is, h1, rfl⟩ := Option.map_eq_some_iff.mp (show (intsOf ks).map (i :: ·) = _ from h)
    rw [List.map_cons, List.map_cons, intsOf_hash w h1]
    rfl
  | .inr _ :: _, _, h => by cases h
theorem apartT_nodup (P : Program) (w : World) {ks : List (List Key)} (h : apartT ks = true) : (ks.map fun k => (tupleKind (mixKind P w)).hash k).Nodup := by
  unfold apartT at h
  split at h
  · rename_i iss e
    have key : ∀ {ks : List (List Key)} {iss : List (List Int)}, ks.mapM intsOf = some iss → (ks.map fun k => (tupleKind (mixKind P w)).hash k) = iss.map hashI := by
      intro ks
      induction ks with
      | nil => intro iss e; simp only [List.mapM_nil] at e; cases e; rfl
      | cons k ks ih =>
        intro iss e
        rw [List.mapM_cons] at e
        cases e1 : intsOf k with
        | none => rw [e1] at e; cases e
        | some is =>
          cases e2 : ks.mapM intsOf with
          | none => rw [e1, e2] at e; cases e
          | some r =>
            rw [e1, e2] at e
            cases e
            rw [List.map_cons, List.map_cons, ih e2]
            congr 1
            show reduceHash (Builtin.Tuple.tupleHashOf (k.map (keyH w))) = _
            rw [intsOf_hash w e1]
            rfl
    rw [key e]
    exact of_decide_eq_true h
  · cases h
theorem mt_update {X : Cx} (hu : X.A.units + 1 < cLine) : MtR X "dict.update" (rUpd X) := by
  intro pins s σ H x vs v us Q I rx rv h
  obtain ⟨a, b, rfl, rfl, hab, h⟩ := h
  cases rx
  obtain ⟨u, rfl, ru⟩ := rv.one
  cases ru
  rcases h with ⟨kvs, more, ha, hb, z, q⟩ | ⟨kvs, more, ha, hb, z, hap, q⟩
  · obtain ⟨_, hd, ws, rel, dd⟩ := dk_of I.hok ha
    obtain ⟨_, hd2, ws2, rel2, dd2⟩ := dk_rd I.hok hb
    have zz : ws.length + ws2.length ≤ sizeLine := by rw [← rel.length, ← rel2.length]; exact z
    refine call_meetsIn F.slot_dict_update dd.typeIs F.entry_dict_update (F.args_dict_update_2 _ _) (meets_dict_update (mixKind X.prog X.w) a b hab hd2) ⟨ws, ws2, dd, dd2, zz, fun h' dd' _ hs => ?_⟩
    have he : ∃ q, h'.get? a = some q := let ⟨q, _, _, hq, _⟩ := dd'; ⟨q, hq⟩
    have hl : (mergeK kvs more).length ≤ sizeLine := Nat.le_trans (length_mergeK more kvs) z
    exact ⟨.non, _, d_write I (by rw [ha]; exact True.intro) hs he (dk_new hl hd (rel2.merge rel) dd'), rfl, q⟩
  · obtain ⟨_, hd, xs, rel, dd⟩ := dt_of I.hok ha
    obtain ⟨_, hd2, xs2, rel2, dd2⟩ := dt_rd I.hok hb
    have l1 := Paired.length rel
    have l2 := Paired.length rel2
    have zz : xs.length + xs2.length ≤ sizeLine := by rw [← l1, ← l2]; exact z
    have hk2 : xs2.map (·.1) = more.map (·.1) := by
      have : ∀ {m : List (List Key × V)} {ys : List (List Key × Addr × Value)}, KT H m ys → ys.map (·.1) = m.map (·.1) := by
        intro m ys r
        induction r with
        | nil => rfl
        | cons r _ ih => rw [List.map_cons, List.map_cons, ih, r.1]
      exact this rel2
    have hap' : xs ≠ [] ∨ ((∀ x ∈ xs2, s.TypeIs (.ref x.2.1) "tuple") ∧ (xs2.map fun x => (tupleKind (mixKind X.prog X.w)).hash x.1).Nodup) := by
      rcases hap with e | e
      · left
        rintro rfl
        cases rel
        exact e rfl
      · right
        refine ⟨fun x hx => ?_, ?_⟩
        · have all : ∀ {m : List (List Key × V)} {ys : List (List Key × Addr × Value)}, KT H m ys → ∀ x ∈ ys, s.TypeIs (.ref x.2.1) "tuple" := by
            intro m ys r
            induction r with
            | nil => intro x hx; exact nomatch hx
            | cons r _ ih =>
              intro x hx
              rcases List.mem_cons.mp hx with rfl | hx
              · exact (key_of I.hok r.2.1).typeIs
              · exact ih x hx
          exact all rel2 x hx
        · have := apartT_nodup X.prog X.w e
          rw [← hk2, List.map_map] at this
          exact this
    refine call_update_dictH (knd := tupleKind (mixKind X.prog X.w)) (tupleKind_room_in1 hu) hab hd2 dd dd2 hap' zz fun h' dd' _ hs => ?_
    have hl : (mergeT kvs more).length ≤ sizeLine := Nat.le_trans (length_mergeT more kvs) z
    obtain ⟨o', es, ep, hq, h2, h3, h4, _, h5⟩ := dd'
    have nw : ObjOk X.prog X.w (upd H a (.dT (mergeT kvs more))) h' a (.dT (mergeT kvs more)) := ⟨hl, hd, _, (KT.merge rel2 rel).keeps fun c ys ec => by
      rw [upd_ne (ne_of ec ha (fun z => nomatch z))]
      exact ec, o', es, ep, hq, h2, h3, h4, h5⟩
    exact ⟨.non, _, d_write I (by rw [ha]; exact True.intro) hs ⟨o', hq⟩ nw, rfl, q⟩
def hUpd : D → List D → Option (D × D) := fun d ds => match d, ds with
  | .dct false kvs, [.dct false more] => if kvs.length + more.length ≤ sizeLine then some (.dct false (mergeD kvs more), .non) else none
  | .dct true kvs, [.dct true more] => if kvs.length + more.length ≤ sizeLine ∧ (kvs ≠ [] ∨ apartT (more.filterMap fun p => match p.1 with | .t k => some k | _ => none) = true) then some (.dct true (mergeD kvs more), .non) else none
  | _, _ => none
theorem ty_upd {K : PySem.W.Frag} : TyOk K "dict" hUpd := fun W H a d0 ds p mu t e => by
  unfold hUpd at e
  split at e
  · obtain ⟨us, hH, _⟩ := t
    exact .inr (.inr (.inl ⟨rfl, .inl ⟨us, rd_exact mu hH⟩⟩))
  · obtain ⟨us, hH, _⟩ := t
    exact .inr (.inr (.inl ⟨rfl, .inr ⟨us, rd_exact mu hH⟩⟩))
  · cases e
theorem RepT.keys {N : Addr → Prop} {sa : Addr} {H : Hp} : ∀ {kvs : List (List Key × V)} {kds : List (DKey × D)}, RepT N sa H kvs kds → (kds.filterMap fun p => match p.1 with | .t k => some k | _ => none) = kvs.map (·.1)
  | _, _, .nil => rfl
  | _, _, .cons _ t => by rw [List.filterMap_cons, List.map_cons, RepT.keys t]
theorem mv_upd {X : Cx} : MethV [false] (rUpd X) hUpd := by
  intro W H S a d0 vs ds d1 rt Q w l t ar h k
  unfold hUpd at h
  split at h
  · rename_i kds mds
    split at h
    · rename_i c
      cases h
      obtain ⟨us, hH, z, r⟩ := t
      cases ar with
      | s r1 ar =>
        cases ar
        cases r1 with
        | @dK b ms _ hB nb zb rb =>
          have zz : us.length + ms.length ≤ sizeLine := by rw [r.length, rb.length]; exact c
          refine ⟨a, b, rfl, rfl, fun e => nb (by rw [← e]; exact .inr (.inl l)), .inl ⟨us, ms, rd_exact (w.ml a l) hH, hB, zz, ?_⟩⟩
          exact k _ _ trivial ⟨_, .inl upd_same, Nat.le_trans (length_mergeK ms us) zz, (rb.merge r).step w (.wrote l)⟩ .non
    · cases h
  · rename_i kds mds
    split at h
    · rename_i c
      cases h
      obtain ⟨us, hH, z, r⟩ := t
      cases ar with
      | s r1 ar =>
        cases ar
        cases r1 with
        | @dT b ms _ hB nb zb rb =>
          have zz : us.length + ms.length ≤ sizeLine := by rw [r.length, rb.length]; exact c.1
          refine ⟨a, b, rfl, rfl, fun e => nb (by rw [← e]; exact .inr (.inl l)), .inr ⟨us, ms, rd_exact (w.ml a l) hH, hB, zz, ?_, ?_⟩⟩
          · rcases c.2 with e | e
            · left
              rintro rfl
              cases r
              exact e rfl
            · right
              rw [rb.keys] at e
              exact e
          · exact k _ _ trivial ⟨_, .inl upd_same, Nat.le_trans (length_mergeT ms us) zz, (rb.merge r).step w (.wrote l)⟩ .non
    · cases h
  · cases h

/-! ### repr -/
def rReprD (K : PySem.W.Frag) : List V → Hp → VK → Prop := fun xs H Q => ∃ x p, xs = [x] ∧ Dp K H x p ∧ p.showable = true ∧ p.hasDict = false ∧ p.depth ≤ 64 ∧ p.shown.length ≤ sizeLine ∧ Q (.str p.shown) H
theorem cr_repr {X : Cx} (hg : X.A.guards = some []) (hu : X.A.units + 66 < cLine) : CallR X (.builtin "repr") (rReprD X.K) := by
  intro pins s σ H xs us Q I r h
  obtain ⟨x, p, rfl, hd, h1, h2, h3, hz, q⟩ := h
  obtain ⟨u, rfl, ru⟩ := Vals.one r
  obtain ⟨as, rd⟩ := Dp.reads I p x u hd ru
  have fin : ∀ (h' : Heap) (t : Tok) (tk : Nat), (∀ b o, s.heap.get? b = some o → h'.get? b = some o) → EP X pins σ Q (.str p.shown t) { s with heap := h', toks := tk } := fun h' t tk hk => ⟨.str p.shown, H, I.kept hk, ⟨t, rfl⟩, q⟩
  cases u with
  | ref a => exact repr_of_reads' rd h1 (fun e => by rw [h2] at e; cases e) hg (by omega) (fun _ _ e => e) (fun h' u tk hk => fin h' u tk hk) hz
  | none =>
    cases rd
    exact PySem.P.repr_of_none (fin s.heap _ _ fun _ _ e => e)
  | bool b =>
    cases rd
    exact PySem.P.repr_of_bool (fin s.heap _ _ fun _ _ e => e)
  | int i t =>
    cases rd
    exact PySem.P.repr_of_int (of_decide_eq_true h1) (fin s.heap _ _ fun _ _ e => e)
  | str y t =>
    cases rd
    exact PySem.P.repr_of_str (fin s.heap _ _ fun _ _ e => e) hz
  | _ => cases rd
def dRepr : List D → Option D
  | [d] => match D.py d with
    | some p => if p.showable && !p.hasDict && decide (p.depth ≤ 64) && decide (p.shown.length ≤ sizeLine) then some (.str p.shown) else none
    | none => none
  | _ => none
theorem cv_repr {K : PySem.W.Frag} : CallV (rReprD K) dRepr := by
  intro W H S vs ds d Q w a h k
  unfold dRepr at h
  split at h
  · rename_i d0
    split at h
    · rename_i p e
      split at h
      · rename_i c
        cases h
        simp only [Bool.and_eq_true, Bool.not_eq_true', decide_eq_true_eq] at c
        obtain ⟨v, rfl, r⟩ := a.one
        exact ⟨v, p, rfl, r.dp e, c.1.1.1, c.1.1.2, c.1.2, c.2, k _ H (.refl _ _) w (.str _)⟩
      · cases h
    · cases h
  · cases h
end L2.EV

/-! EV, part K: the source of numbers: its fields, the draining of its cells. -/
namespace L2.EV
open PySem PySem.Spec PyProof.Rows

inductive Fld where
  | left | mixed | turn
def Fld.nm : Fld → Str
  | .left => "left"
  | .mixed => "mixed"
  | .turn => "turn"
def Fld.get (S : Src) : Fld → Int
  | .left => S.left
  | .mixed => S.mixed
  | .turn => S.turn
def Fld.set (S : Src) (x : Int) : Fld → Src
  | .left => { S with left := x }
  | .mixed => { S with mixed := x }
  | .turn => { S with turn := x }
theorem srcK_get (ca : Addr) (S : Src) (f : Fld) : valV (srcK ca S) (.inr f.nm) = some (.int (f.get S)) := by
  cases f
  · show valV _ (Sum.inr (Str.ofString "left")) = _
    unfold srcK
    rw [valV_neg (by show ¬ (Sum.inr _ : Key) = Sum.inr _; decide), valV_pos rfl]; rfl
  · show valV _ (Sum.inr (Str.ofString "mixed")) = _
    unfold srcK
    rw [valV_neg (by show ¬ (Sum.inr _ : Key) = Sum.inr _; decide), valV_neg (by show ¬ (Sum.inr _ : Key) = Sum.inr _; decide), valV_pos rfl]; rfl
  · show valV _ (Sum.inr (Str.ofString "turn")) = _
    unfold srcK
    rw [valV_neg (by show ¬ (Sum.inr _ : Key) = Sum.inr _; decide), valV_neg (by show ¬ (Sum.inr _ : Key) = Sum.inr _; decide), valV_neg (by show ¬ (Sum.inr _ : Key) = Sum.inr _; decide), valV_pos rfl]; rfl
theorem srcK_cells (ca : Addr) (S : Src) : valV (srcK ca S) (.inr (Str.ofString "cells")) = some (.ref ca) := by
  unfold srcK
  rw [valV_pos rfl]
theorem srcK_put (ca : Addr) (S : Src) (f : Fld) (x : Int) : putK (srcK ca S) (.inr f.nm) (.int x) = srcK ca (f.set S x) := by
  have d1 : (Str.ofString "cells" = Str.ofString "left") = False := by decide
  have d2 : (Str.ofString "cells" = Str.ofString "mixed") = False := by decide
  have d3 : (Str.ofString "cells" = Str.ofString "turn") = False := by decide
  have d4 : (Str.ofString "left" = Str.ofString "mixed") = False := by decide
  have d5 : (Str.ofString "left" = Str.ofString "turn") = False := by decide
  have d6 : (Str.ofString "mixed" = Str.ofString "left") = False := by decide
  have d7 : (Str.ofString "mixed" = Str.ofString "turn") = False := by decide
  have d8 : (Str.ofString "turn" = Str.ofString "left") = False := by decide
  have d9 : (Str.ofString "turn" = Str.ofString "mixed") = False := by decide
  cases f
  · show putK _ (Sum.inr (Str.ofString "left")) _ = _
    simp [srcK, putK, Fld.set, d1, d2, d3, d4, d5, d6, d7, d8, d9]
  · show putK _ (Sum.inr (Str.ofString "mixed")) _ = _
    simp [srcK, putK, Fld.set, d1, d2, d3, d4, d5, d6, d7, d8, d9]
  · show putK _ (Sum.inr (Str.ofString "turn")) _ = _
    simp [srcK, putK, Fld.set, d1, d2, d3, d4, d5, d6, d7, d8, d9]

section
variable {W : Wd} {H : Hp} {S : Src}
theorem src_write (w : WRel W H S) (f : Fld) (x : Int) : Keep W H (upd H W.sa (.dK (srcK W.ca (f.set S x)))) ∧ WRel W (upd H W.sa (.dK (srcK W.ca (f.set S x)))) (f.set S x) := by
  have hne : W.ca ≠ W.sa := fun e => by
    have h1 := w.hc
    rw [e, w.hs] at h1
    cases h1
  refine ⟨fun a o h1 h2 h => by rw [upd_ne h1]; exact h, upd_same, ?_, fun a h => ?_, w.ne, w.ap, fun a h => by rw [upd_ne (w.ne a (.inr h)).1]; exact w.ml a h⟩
  · rw [upd_ne hne, w.hc]
    cases f <;> rfl
  · have n := w.ne a h
    rw [upd_ne n.1]; exact w.mu a h
theorem ca_write (w : WRel W H S) (cs : List Int) : Keep W H (upd H W.ca (.lst (cs.map V.int))) ∧ WRel W (upd H W.ca (.lst (cs.map V.int))) { S with cells := cs } := by
  have hne : W.sa ≠ W.ca := fun e => by
    have h1 := w.hc
    rw [← e, w.hs] at h1
    cases h1
  refine ⟨fun a o h1 h2 h => by rw [upd_ne h2]; exact h, ?_, upd_same, fun a h => ?_, w.ne, w.ap, fun a h => by rw [upd_ne (w.ne a (.inr h)).2]; exact w.ml a h⟩
  · rw [upd_ne hne, w.hs]; rfl
  · have n := w.ne a h
    rw [upd_ne n.2]; exact w.mu a h
end

/-- source['left'] and the like -/
def isSrc (ρ : Ev) (i : Nat) : Bool := match ρ[i]? with
  | some (some (.s .src)) => true
  | _ => false
theorem isSrc_get {W : Wd} {H : Hp} {σ : St} {ρ : Ev} {i : Nat} (er : EnvRel W H σ ρ) (h : isSrc ρ i = true) : σ[i]? = some (some (.ref W.sa)) := by
  unfold isSrc at h
  split at h
  · rename_i e
    obtain ⟨v, h1, h2⟩ := er.get i _ e
    cases (show Rep W.no W.sa H v .src from h2)
    exact h1
  · cases h
def eFld (i : Nat) (f : Fld) : Ev → M D := fun ρ S => if isSrc ρ i = true then some (.int (f.get S), S) else none
def sFld (i : Nat) (f : Fld) (g : Ev → M D) : Ev → M Out := fun ρ => g ρ >>= fun d S => match d with
  | .int x => if isSrc ρ i = true then some (.nx ρ, f.set S x) else none
  | _ => none
theorem sm4 : ∀ (ca : Addr) (S : Src), (srcK ca S).length < sizeLine := fun ca S => by
  show 4 < sizeLine
  decide
section
variable {X : Cx} {x : Str} {px ps pa : Pos} {j : Nat} {g : Ev → M D} {e : Expr}
theorem ee_fld (f : Fld) (i : Nat) (hu : X.A.units + 1 < cLine) (hN : X.N[i]? = some x := by rfl) (hv : Vis X.env.scope x := by first | exact Or.inl rfl | exact Or.inr (Or.inl rfl) | exact Or.inr (Or.inr rfl)) (hd : (x == ("__debug__" : Str)) = false := by decide)
    (hcd : (x == ("__classdict__" : Str)) = false := by decide) : EE X (.Subscript (.Name x px) (.Constant (.str f.nm) j pa) ps) (eFld i f) := by
  refine ⟨_, pe_ix (ix_dict hu) (pe_var hN hv hd hcd) pe_str (fun _ _ => rfl), fun W σ H ρ S d S' Q w er hf k => ?_⟩
  have hf : (if isSrc ρ i = true then some (D.int (f.get S), S) else none) = some (d, S') := hf
  split at hf
  · rename_i c
    cases hf
    refine ⟨.ref W.sa, isSrc_get er c, W.sa, .int (f.get S), rfl, ?_, k _ H (.refl _ _) w (.int _)⟩
    have := DGet.k (k := .inr f.nm) w.hs
    rw [srcK_get] at this
    exact this
  · cases hf
theorem ss_fld (f : Fld) (i : Nat) (hu : X.A.units + 1 < cLine) (he : EE X e g) (hN : X.N[i]? = some x := by rfl) (hv : Vis X.env.scope x := by first | exact Or.inl rfl | exact Or.inr (Or.inl rfl) | exact Or.inr (Or.inr rfl)) (hd : (x == ("__debug__" : Str)) = false := by decide)
    (hcd : (x == ("__classdict__" : Str)) = false := by decide) {pst : Pos} (hs : swapsWithSole [.Subscript (.Name x px) (.Constant (.str f.nm) j pa) ps] e pst.line X.env = pure false := by rfl) (hw : swappedStores [.Subscript (.Name x px) (.Constant (.str f.nm) j pa) ps] e X.env = pure none := by rfl)
    (h1 : (assignEach [.Subscript (.Name x px) (.Constant (.str f.nm) j pa) ps] X.env).map (·.2) = [assign (.Subscript (.Name x px) (.Constant (.str f.nm) j pa) ps) X.env] := by rfl) : SS X (.Assign [.Subscript (.Name x px) (.Constant (.str f.nm) j pa) ps] e pst) (sFld i f g) := by
  obtain ⟨t, p, q⟩ := he.ex
  refine ⟨_, ps_asg p (pg_sub (pe_var hN hv hd hcd) pe_str (set_dict hu)) hs hw h1, fun W σ H ρ S o S' E w er hf k => ?_⟩
  obtain ⟨d, S1, e1, hf⟩ := M.bind_eq hf
  refine q W σ H ρ S d S1 _ w er e1 fun v H1 k1 w1 r1 => ?_
  cases d with
  | int y =>
    have hf : (if isSrc ρ i = true then some (Out.nx ρ, f.set S1 y) else none) = some (o, S') := hf
    split at hf
    · rename_i c
      cases hf
      cases r1
      obtain ⟨k2, w2⟩ := src_write w1 f y
      have er1 := er.keep w k1
      refine ⟨.ref W.sa, isSrc_get er1 c, W.sa, _, rfl, .inl ⟨_, .inr f.nm, w1.hs, rfl, sm4 _ _, rfl⟩, ?_⟩
      rw [srcK_put]
      exact k W σ _ (.of (k1.trans k2)) w2 (er1.keep w1 k2)
    · cases hf
  | _ => cases hf
end

/-! ### the draining -/
def drainN : Nat → Src → Src
  | 0, S => S
  | n + 1, S => if S.left < 2 then match S.cells[S.cells.length - 1]? with
    | some x => drainN n { S with cells := S.cells.dropLast, left := x }
    | none => S
    else S
def drain (S : Src) : Src := drainN S.cells.length S
theorem drain_stop {S : Src} (h : (decide (S.left < 2) && decide (0 < S.cells.length)) = false) : drain S = S := by
  unfold drain
  cases e : S.cells.length with
  | zero => rfl
  | succ n =>
    unfold drainN
    have : ¬ S.left < 2 := by
      intro c
      rw [e] at h
      simp [c] at h
    rw [if_neg this]
theorem drain_go {S : Src} (h : (decide (S.left < 2) && decide (0 < S.cells.length)) = true) : ∃ x, S.cells[S.cells.length - 1]? = some x ∧ drain S = drain { S with cells := S.cells.dropLast, left := x } := by
  rw [Bool.and_eq_true] at h
  have h1 := of_decide_eq_true h.1
  have h2 := of_decide_eq_true h.2
  refine ⟨S.cells[S.cells.length - 1], List.getElem?_eq_getElem (by omega), ?_⟩
  unfold drain
  have e : S.cells.length = (S.cells.length - 1) + 1 := by omega
  have e2 : drainN S.cells.length S = drainN ((S.cells.length - 1) + 1) S := by rw [← e]
  rw [e2]
  show drainN ((S.cells.length - 1) + 1) S = drainN S.cells.dropLast.length _
  rw [List.length_dropLast]
  conv => lhs; unfold drainN
  rw [if_pos h1, List.getElem?_eq_getElem (by omega)]
theorem drain_core {tc : TT} {tb : TS} {G : Wd → St → Ev → Prop}
    (htc : ∀ (W : Wd) (σ : St) (H : Hp) (ρ : Ev) (S : Src) (Q : Bool → Hp → Prop), WRel W H S → EnvRel W H σ ρ → G W σ ρ → Q (decide (S.left < 2) && decide (0 < S.cells.length)) H → tc σ H Q)
    (htb : ∀ (W : Wd) (σ : St) (H : Hp) (ρ : Ev) (S : Src) (x : Int) (E : Ends), WRel W H S → EnvRel W H σ ρ → G W σ ρ → S.cells[S.cells.length - 1]? = some x → (∀ H', Keep W H H' → WRel W H' { S with cells := S.cells.dropLast, left := x } → E.nx σ H') → tb E σ H)
    {W : Wd} {σ : St} {H : Hp} {ρ : Ev} {S : Src} {E : Ends} (w : WRel W H S) (er : EnvRel W H σ ρ) (hg : G W σ ρ) (k : ∀ H', Keep W H H' → WRel W H' (drain S) → EnvRel W H' σ ρ → E.nx σ H') : tWhile tc tb E σ H := by
  refine ⟨fun m σ' H' => ∃ S2 : Src, σ' = σ ∧ Keep W H H' ∧ WRel W H' S2 ∧ drain S2 = drain S ∧ m = S2.cells.length, ⟨_, S, rfl, .refl _ _, w, rfl, rfl⟩, ?_⟩
  rintro m σ' H' ⟨S2, rfl, k1, w1, ed, rfl⟩
  have er1 := er.keep w k1
  refine htc W σ' H' ρ S2 _ w1 er1 hg ?_
  cases c : (decide (S2.left < 2) && decide (0 < S2.cells.length)) with
  | false =>
    rw [if_neg Bool.false_ne_true]
    rw [drain_stop c] at ed
    rw [ed] at w1
    exact k H' k1 w1 er1
  | true =>
    rw [if_pos rfl]
    obtain ⟨x, hx, e2⟩ := drain_go c
    refine ⟨fun σ2 H2 => σ2 = σ' ∧ Keep W H H2 ∧ WRel W H2 { S2 with cells := S2.cells.dropLast, left := x }, fun σ2 H2 ⟨h1, h2, h3⟩ => ⟨S2.cells.dropLast.length, ?_, _, h1, h2, h3, e2.symm.trans ed, rfl⟩, ?_⟩
    · rw [Bool.and_eq_true] at c
      have := of_decide_eq_true c.2
      rw [List.length_dropLast]
      omega
    · exact htb W σ' H' ρ S2 x _ w1 er1 hg hx fun H2 k2 w2 => ⟨rfl, k1.trans k2, w2⟩
/-- cells: what gives the list of cells -/
def TCel (t : TE) (G : Wd → St → Ev → Prop) : Prop := ∀ (W : Wd) (σ : St) (H : Hp) (ρ : Ev) (S : Src) (Q : VK), WRel W H S → EnvRel W H σ ρ → G W σ ρ → Q (.ref W.ca) H → t σ H Q
def tPopC (K : PySem.W.Frag) (te : TE) (i : Nat) : TS := tAsg (tBM0 K "list" rPop te) (gSub (tVar i) (tC (.str "left")) rSetD)
theorem body_drain {K : PySem.W.Frag} {te : TE} {G : Wd → St → Ev → Prop} {i : Nat} (hc : TCel te G) (hi : ∀ W H σ ρ, EnvRel W H σ ρ → G W σ ρ → σ[i]? = some (some (.ref W.sa))) :
    ∀ (W : Wd) (σ : St) (H : Hp) (ρ : Ev) (S : Src) (x : Int) (E : Ends), WRel W H S → EnvRel W H σ ρ → G W σ ρ → S.cells[S.cells.length - 1]? = some x → (∀ H', Keep W H H' → WRel W H' { S with cells := S.cells.dropLast, left := x } → E.nx σ H') → tPopC K te i E σ H := by
  intro W σ H ρ S x E w er g hx k
  refine hc W σ H ρ S _ w er g ⟨.inl ⟨rfl, _, .of w.hc⟩, W.ca, S.cells.map V.int, .int x, rfl, rfl, w.hc, ?_, ?_⟩
  · rw [List.length_map, List.getElem?_map, hx]; rfl
  · obtain ⟨k1, w1⟩ := ca_write w S.cells.dropLast
    rw [← List.map_dropLast]
    obtain ⟨k2, w2⟩ := src_write w1 .left x
    refine ⟨.ref W.sa, hi W H σ ρ er g, W.sa, _, rfl, .inl ⟨_, .inr "left", w1.hs, rfl, sm4 _ _, rfl⟩, ?_⟩
    have e := srcK_put W.ca { S with cells := S.cells.dropLast } .left x
    have e' : putK (srcK W.ca { S with cells := S.cells.dropLast }) (.inr "left") (.int x) = srcK W.ca { S with cells := S.cells.dropLast, left := x } := e
    rw [e']
    exact k _ (k1.trans k2) w2
/-- source['left'] < 2, len(cells) > 0 -/
theorem left_drain {i : Nat} {W : Wd} {σ : St} {H : Hp} {ρ : Ev} {S : Src} {Q : Bool → Hp → Prop} (w : WRel W H S) (er : EnvRel W H σ ρ) (g : isSrc ρ i = true) (q : Q (decide (S.left < 2)) H) :
    tTest (tOp (rI0 fun i j => .bl (decide (i < j))) (tOp rIxD (tVar i) (tC (.str "left"))) (tC (.int 2))) σ H Q := by
  refine ⟨.ref W.sa, isSrc_get er g, W.sa, .int S.left, rfl, ?_, S.left, 2, rfl, rfl, _, rfl, q⟩
  have := DGet.k (k := .inr Fld.left.nm) w.hs
  rw [srcK_get] at this
  exact this
theorem len_drain {K : PySem.W.Frag} {te : TE} {G : Wd → St → Ev → Prop} (hc : TCel te G) {W : Wd} {σ : St} {H : Hp} {ρ : Ev} {S : Src} {Q : Bool → Hp → Prop} (w : WRel W H S) (er : EnvRel W H σ ρ) (g : G W σ ρ) (q : Q (decide (0 < S.cells.length)) H) :
    tTest (tOp (rI0 fun i j => .bl (decide (j < i))) (tCB (rLenAll K) (tCons te tNil)) (tC (.int 0))) σ H Q := by
  refine hc W σ H ρ S _ w er g (.inl ⟨_, _, rfl, .inl ⟨_, .of w.hc, rfl⟩, ((S.cells.map V.int).length : Nat), 0, rfl, rfl, _, rfl, ?_⟩)
  rw [List.length_map]
  have e : decide ((0 : Int) < (S.cells.length : Nat)) = decide (0 < S.cells.length) := decide_eq_decide.mpr (by omega)
  rw [e]
  exact q
def sDrain1 (i j : Nat) (fr : Ev → M Out) : Ev → M Out := fun ρ S => if (isSrc ρ i && decide (i ≠ j) && decide (j < ρ.length)) = true then fr (ρ.set j none) (drain S) else none
def sDrain2 (i m : Nat) : Ev → M Out := fun ρ S => if isSrc ρ i = true then match ρ[m]? with
  | some (some (.s (.int k))) => some (.nx ρ, if 1 < k then drain S else S)
  | _ => none else none
theorem cel_read {i : Nat} {W : Wd} {σ : St} {H : Hp} {ρ : Ev} {S : Src} {Q : VK} (w : WRel W H S) (er : EnvRel W H σ ρ) (g : isSrc ρ i = true) (q : Q (.ref W.ca) H) : tOp rIxD (tVar i) (tC (.str "cells")) σ H Q := by
  refine ⟨.ref W.sa, isSrc_get er g, W.sa, .ref W.ca, rfl, ?_, q⟩
  have := DGet.k (k := .inr (Str.ofString "cells")) w.hs
  rw [srcK_cells] at this
  exact this
abbrev tLeft (i : Nat) : TT := tTest (tOp (rI0 fun i j => .bl (decide (i < j))) (tOp rIxD (tVar i) (tC (.str "left"))) (tC (.int 2)))
abbrev tLenC (K : PySem.W.Frag) (te : TE) : TT := tTest (tOp (rI0 fun i j => .bl (decide (j < i))) (tCB (rLenAll K) (tCons te tNil)) (tC (.int 0)))
section
variable {X : Cx} {st1 st2 : Stmt} {rest : List Stmt} {fr : Ev → M Out}
theorem sss_drain1 (i j : Nat) (p1 : PS X st1 (tAsg (tOp rIxD (tVar i) (tC (.str "cells"))) (gName j)))
    (p2 : PS X st2 (tWhile (tAnd (tLeft i) (tLenC X.K (tVar j))) (tPopC X.K (tVar j) i))) (hr : SSs X rest fr) : SSs X (st1 :: st2 :: rest) (sDrain1 i j fr) := by
  obtain ⟨tr, p3, q3⟩ := hr.ex
  refine ⟨_, pss_cons p1 (pss_cons p2 p3), fun W σ H ρ S o S' E w er hf k => ?_⟩
  have hf : (if (isSrc ρ i && decide (i ≠ j) && decide (j < ρ.length)) = true then fr (ρ.set j none) (drain S) else none) = some (o, S') := hf
  split at hf
  · rename_i c
    simp only [Bool.and_eq_true, decide_eq_true_eq] at c
    obtain ⟨⟨c1, c2⟩, c3⟩ := c
    show tOp rIxD (tVar i) (tC (.str "cells")) σ H (fun v H1 => tWhile _ _ { E with nx := tr E } (σ.set j (some v)) H1)
    refine cel_read w er c1 ?_
    have er1 : EnvRel W H (σ.set j (some (.ref W.ca))) (ρ.set j none) := er.unk
    have g1 : isSrc (ρ.set j none) i = true := by
      unfold isSrc at c1 ⊢
      rw [List.getElem?_set_ne (Ne.symm c2)]
      exact c1
    let G : Wd → St → Ev → Prop := fun W σ ρ => isSrc ρ i = true ∧ σ[j]? = some (some (.ref W.ca))
    have hG : G W (σ.set j (some (.ref W.ca))) (ρ.set j none) := ⟨g1, List.getElem?_set_self (by rw [er.len]; exact c3)⟩
    have hcel : TCel (tVar j) G := fun W σ H ρ S Q w er g q => ⟨_, g.2, q⟩
    refine drain_core (G := G) (fun W σ H ρ S Q w er g q => ?_) (body_drain hcel fun W H σ ρ er g => isSrc_get er g.1) w er1 hG fun H' k1 w1 er2 => ?_
    · refine left_drain w er g.1 ?_
      by_cases c : S.left < 2
      · rw [decide_eq_true c] at q ⊢
        rw [if_pos rfl]
        exact len_drain hcel w er g q
      · rw [decide_eq_false c] at q ⊢
        rw [if_neg Bool.false_ne_true]
        exact q
    · exact q3 W _ H' (ρ.set j none) (drain S) o S' E w1 er2 hf (k.step w w1 (.of k1))
  · cases hf
theorem ss_drain2 (i m : Nat) (p2 : PS X st2 (tWhile (tAnd (tTest (tOp (rI0 fun i j => .bl (decide (j < i))) (tVar m) (tC (.int 1)))) (tAnd (tLeft i) (tLenC X.K (tOp rIxD (tVar i) (tC (.str "cells")))))) (tPopC X.K (tOp rIxD (tVar i) (tC (.str "cells"))) i))) : SS X st2 (sDrain2 i m) := by
  refine ⟨_, p2, fun W σ H ρ S o S' E w er hf k => ?_⟩
  have hf : (if isSrc ρ i = true then match ρ[m]? with
    | some (some (.s (.int k))) => some (.nx ρ, if 1 < k then drain S else S)
    | _ => none else none) = some (o, S') := hf
  split at hf
  · rename_i c1
    split at hf
    · rename_i n e
      cases hf
      obtain ⟨v, hv, rv⟩ := er.get m _ e
      cases (show Rep W.no W.sa H v (.int n) from rv)
      by_cases hn : 1 < n
      · rw [if_pos hn] at k
        let G : Wd → St → Ev → Prop := fun W σ ρ => isSrc ρ i = true ∧ σ[m]? = some (some (.int n))
        have hcel : TCel (tOp rIxD (tVar i) (tC (.str "cells"))) G := fun W σ H ρ S Q w er g q => cel_read w er g.1 q
        refine drain_core (G := G) (fun W σ H ρ S Q w er g q => ?_) (body_drain hcel fun W H σ ρ er g => isSrc_get er g.1) w er ⟨c1, hv⟩ fun H' k1 w1 er2 => k W σ H' (.of k1) w1 er2
        refine ⟨.int n, g.2, n, 1, rfl, rfl, _, rfl, ?_⟩
        rw [decide_eq_true hn]
        show (if true = true then _ else _)
        rw [if_pos rfl]
        refine left_drain w er g.1 ?_
        by_cases c : S.left < 2
        · rw [decide_eq_true c] at q ⊢
          rw [if_pos rfl]
          exact len_drain hcel w er g q
        · rw [decide_eq_false c] at q ⊢
          rw [if_neg Bool.false_ne_true]
          exact q
      · rw [if_neg hn] at k
        refine ⟨fun _ σ' H' => σ' = σ ∧ H' = H, ⟨0, rfl, rfl⟩, ?_⟩
        rintro _ σ' H' ⟨rfl, rfl⟩
        refine ⟨.int n, hv, n, 1, rfl, rfl, _, rfl, ?_⟩
        rw [decide_eq_false hn]
        show (if false = true then _ else _)
        rw [if_neg Bool.false_ne_true]
        show (if false = true then _ else _)
        rw [if_neg Bool.false_ne_true]
        exact k W σ' H' .refl w er
    · cases hf
  · cases hf
end
end L2.EV

/-! EV, part L: several names at once; defs where no text is under way (guards); the law's head. -/
namespace L2.EV
open PySem PySem.Spec PyProof.Rows

/-! ### several names at once -/
def tP (f : Ev → M (List Cell)) : TA := fun σ H Q => ∃ (W : Wd) (ρ : Ev) (S : Src) (cs : List Cell) (S' : Src), WRel W H S ∧ EnvRel W H σ ρ ∧ f ρ S = some (cs, S') ∧ ∀ vs W' H', KeepC W H W' H' → WRel W' H' S' → Cells W' H' W.L vs cs → Q vs H'
theorem tP_v (f : Ev → M (List Cell)) : TPv (tP f) f := fun W σ H ρ S ds S' Q w er hf k => ⟨W, ρ, S, ds, S', w, er, hf, k⟩
theorem tP_mono {f : Ev → M (List Cell)} {σ : St} {H : Hp} {Q Q' : List V → Hp → Prop} (h : tP f σ H Q) (k : ∀ vs H', Q vs H' → Q' vs H') : tP f σ H Q' :=
  let ⟨W, ρ, S, ds, S', w, er, hf, q⟩ := h; ⟨W, ρ, S, ds, S', w, er, hf, fun vs W' H' a b c => k _ _ (q vs W' H' a b c)⟩
theorem EPs.max {X : Cx} {es : List Expr} {f : Ev → M (List Cell)} (h : EPs X es f) : PA X es (tP f) := by
  obtain ⟨t, p, q⟩ := h.ex
  exact ⟨fun pos pins s σ H Q I ⟨W, ρ, S, d, S', w, er, hf, k⟩ => p.run pos pins s σ H Q I (q W σ H ρ S d S' Q w er hf k)⟩
section
variable {X : Cx} {es : List Expr} {f : Ev → M (List Cell)} {st : Stmt}
theorem ss_parOf (is : List Nat) {t : TS} (p : PS X st t) (h : ∀ E σ H, tPars is (tP f) E σ H → t E σ H) : SS X st (sPar is f) :=
  ⟨t, p, fun W σ H ρ S o S' E w er hf k => h E σ H (TSv.par (tP_v f) W σ H ρ S o S' E w er hf k)⟩
theorem ss_par2 (i j : Nat) {x y : Str} {a b : Expr} {px py pt pos : Pos} {kt k2 pt2} (hc : X.calm = true) (hN : X.N.Nodup) (he : EPs X [a, b] f) (hi : X.N[i]? = some x := by rfl) (hj : X.N[j]? = some y := by rfl) (hij : i ≠ j := by decide)
    (hx : X.env.scope.names.lookup x = some .local := by rfl) (hy : X.env.scope.names.lookup y = some .local := by rfl)
    (hw : swappedStores [.Tuple [.Name x px, .Name y py] kt pt] (.Tuple [a, b] k2 pt2) X.env = pure (some [x, y]) := by rfl)
    (hs : swapsWithSole [.Tuple [.Name x px, .Name y py] kt pt] (.Tuple [a, b] k2 pt2) pos.line X.env = pure false := by rfl) : SS X (.Assign [.Tuple [.Name x px, .Name y py] kt pt] (.Tuple [a, b] k2 pt2) pos) (sPar [i, j] f) := by
  refine ss_parOf [i, j] (ps_par hc hN hi hj hij hx hy he.max hw hs) fun E σ H h => tP_mono h fun vs H' ⟨h1, h2⟩ => ?_
  match vs, h1, h2 with
  | [v, u], _, h2 => exact ⟨v, u, rfl, h2 H' fun _ _ e => e⟩
theorem ss_par3 (i j l : Nat) {x y z : Str} {a b c : Expr} {px py pz pt pos : Pos} {kt k2 pt2} (hc : X.calm = true) (hN : X.N.Nodup) (he : EPs X [a, b, c] f) (hi : X.N[i]? = some x := by rfl) (hj : X.N[j]? = some y := by rfl) (hl : X.N[l]? = some z := by rfl) (hij : i ≠ j := by decide) (hil : i ≠ l := by decide) (hjl : j ≠ l := by decide)
    (hx : X.env.scope.names.lookup x = some .local := by rfl) (hy : X.env.scope.names.lookup y = some .local := by rfl) (hz : X.env.scope.names.lookup z = some .local := by rfl)
    (hw : swappedStores [.Tuple [.Name x px, .Name y py, .Name z pz] kt pt] (.Tuple [a, b, c] k2 pt2) X.env = pure (some [x, y, z]) := by rfl)
    (hs : swapsWithSole [.Tuple [.Name x px, .Name y py, .Name z pz] kt pt] (.Tuple [a, b, c] k2 pt2) pos.line X.env = pure false := by rfl) : SS X (.Assign [.Tuple [.Name x px, .Name y py, .Name z pz] kt pt] (.Tuple [a, b, c] k2 pt2) pos) (sPar [i, j, l] f) := by
  refine ss_parOf [i, j, l] (L2.ps_par3 hc hN hi hj hl hij hil hjl hx hy hz he.max hw hs) fun E σ H h => tP_mono h fun vs H' ⟨h1, h2⟩ => ?_
  match vs, h1, h2 with
  | [v, u, r], _, h2 => exact ⟨v, u, r, rfl, h2 H' fun _ _ e => e⟩
def gNames : List Nat → TGs
  | [] => gNil
  | i :: is => gCons (gName i) (gNames is)
theorem gNames_ok : ∀ (is : List Nat) (vs : List V) (σ : St) (H : Hp) (Q : St → Hp → Prop), vs.length = is.length → Q (setAll is vs σ) H → gNames is vs σ H Q
  | [], [], _, _, _, _, q => ⟨rfl, q⟩
  | i :: is, v :: vs, σ, H, Q, h, q => ⟨v, vs, rfl, gNames_ok is vs (σ.set i (some v)) H Q (by simpa using h) q⟩
  | [], _ :: _, _, _, _, h, _ => by simp at h
  | _ :: _, [], _, _, _, h, _ => by simp at h
/-- the tuple is made -/
theorem ss_parN (is : List Nat) {ts : List Expr} {pt pos : Pos} {kt k2 pt2} (hc : X.calm = true) (he : EPs X es f) (hg : PGs X ts (gNames is)) (hz : is.length ≤ sizeLine := by decide)
    (hn : (assignEach ts X.env).length = is.length := by rfl) (hst : (assignEach ts X.env).findIdx? (·.1) = none := by rfl)
    (hs : swapsWithSole [.Tuple ts kt pt] (.Tuple es k2 pt2) pos.line X.env = pure false := by rfl) (hw : swappedStores [.Tuple ts kt pt] (.Tuple es k2 pt2) X.env = pure none := by rfl)
    (h1 : (assignEach [.Tuple ts kt pt] X.env).map (·.2) = [assign (.Tuple ts kt pt) X.env] := by rfl) : SS X (.Assign [.Tuple ts kt pt] (.Tuple es k2 pt2) pos) (sPar is f) := by
  refine ss_parOf is (ps_asg (pe_tup he.max) (pg_tup hc hg hn hst) hs hw h1) fun E σ H h => tP_mono h fun vs H' ⟨e1, h2⟩ => ?_
  refine ⟨by rw [e1]; exact hz, fun p hp => ⟨p, vs, rfl, .of upd_same, e1, ?_⟩⟩
  exact gNames_ok is vs σ _ _ e1 (h2 _ fun b x e => upd_keep hp e)
end

/-! ### defs, where no guard is set -/
structure FnG (P : Program) (w : World) (K : PySem.W.Frag) (mg : Str → Option Value) (base : Heap) (k : Nat) (f : Addr) (fd : FuncData) (ps : List Str) (sp : Sp) : Prop where
  len : ∀ vs H Q E, sp vs H Q E → vs.length = ps.length
  go : ∀ (A : Around) (outer : List Env) (s : Shared) (H : Hp) (args : PySem.Args) (us : List Value) (vs : List V) (Q : VK) (E : XK), A.guards = some [] → Room k A → Env0 P w K mg base A outer s H → BindsTo s fd args (ps.zip us) → Vals vs us → sp vs H Q E →
    codeAny (model P w) A (.call (.ref f) args) (CR CX0 outer P w H s Q E) s
theorem FnG.of {P : Program} {w : World} {K : PySem.W.Frag} {mg : Str → Option Value} {base : Heap} {k : Nat} {f : Addr} {fd : FuncData} {ps : List Str} {sp : Sp} (F : FnOk P w K mg base CX0 k f fd ps sp) : FnG P w K mg base k f fd ps sp :=
  ⟨F.len, fun A outer s H args us vs Q E _ hr => F.run A outer s H args us vs Q E hr⟩
/-- a def by its body, no guard being set -/
theorem fnG_body {P : Program} {w : World} {K : PySem.W.Frag} {mg : Str → Option Value} {base : Heap} {x qual : Str} {st : Stmt} {f : Addr} {fd : FuncData} {N ps : List Str} {k : Nat} {sp : Sp} (F : Fun K x qual st f fd) (S : FnScope N ps (defScope st)) (len : ∀ vs H Q E, sp vs H Q E → vs.length = ps.length)
    (body : ∀ (cdv : Value) (A : Around) (outer : List Env) (s : Shared) (H : Hp) (vs : List V) (Q : VK) (E : XK), A.guards = some [] → Room k (A.deeper (envOfC qual (defScope st) s.heap.objs.size f cdv)) → sp vs H Q E →
      ∃ t, PSs (cxOf CX0 P w K mg base N qual (defScope st) f cdv A outer s H E).nox (defBody st) t ∧ t { nx := fun _ H' => Q .non H', rt := Q } (start N vs) H) : FnG P w K mg base (k + 1) f fd ps sp := by
  obtain ⟨oc, od, kV, doc, pm, an, cdv, ct, osl, rfl, lk, code⟩ := F.ex
  refine ⟨len, fun A outer s H args us vs Q E hg room e0 bound rv hsp => ?_⟩
  have same := len _ _ _ _ hsp
  have keep : ∀ b o, base.get? b = some o → s.heap.get? b = some o := fun b o e => (e0.bs b o e).1
  refine codeAny_call_function room.depth (e0.mod.kin.keeps keep _ _ lk) rfl S.co S.gen rfl (PySem.W.codeRec_of (e0.mod.kin.keeps keep) code) (bound _ _ _ _ ?_)
  have kinds : ∀ y ∈ ps.zip us, (defScope st).names.lookup y.1 = some .local ∨ ((defScope st).names.lookup y.1 = some .cell ∧ ((cellsFrom (s.heap.objs.size + 1) (defScope st).names []).lookup y.1).isSome = true) := by
    rintro ⟨n, v⟩ hy
    rcases S.par n (List.of_mem_zip hy).1 with q | q
    · exact .inl q
    · exact .inr ⟨q, PySem.W.cellsFrom_some _ _ _ (.inl q)⟩
  refine wpAny_newFunctionEnv_cells S.kind kinds fun env he s1 entered => ?_
  subst he
  obtain ⟨t, pt, ht⟩ := body cdv A outer s H vs Q E hg (room.deeper _) hsp
  refine ⟨(e0.mod.nolimit.keeps keep).keeps entered.toInCall.keep, codeAny_func ?_⟩
  refine wpAny_mono (pt.nox.run [] s1 (start N vs) H _ (inv_start S room.hd e0 same rv entered) ht) (fun fl s' out => ?_) fun e s' out => out
  cases fl with
  | next => obtain ⟨σ', H', J, q⟩ := out; exact ⟨V.non, H', J.os, J.bare, J.base, J.hok, (rfl : RelV V.non Value.none), q⟩
  | ret u => obtain ⟨v, σ', H', J, ru, q⟩ := out; exact ⟨v, H', J.os, J.bare, J.base, J.hok, ru, q⟩
  | brk => obtain ⟨_, _, _, no⟩ := out; exact (no : False).elim
  | cont => obtain ⟨_, _, _, no⟩ := out; exact (no : False).elim
theorem room_u {k : Nat} {A : Around} (r : Room k A) (n : Nat) (h : n ≤ 200) : A.units + n < cLine := by have := r.un; omega

/-! ### the law's call -/
theorem callG {P : Program} {w : World} {K : PySem.W.Frag} {mg mb : Str → Option Value} {k : Nat} {fa a : Addr} {fd : FuncData} {x : Str} {sp : Sp} {s₁ : Shared} {vs : List Value} {ns : List Int}
    (KX : K.In s₁.heap) (hns : s₁.heap.Ns mainGlobals mg) (hb : s₁.heap.Ns builtinsNs mb) (hbb : ∀ x : Str, x ≠ "__name__" → mb x = bootBuiltins x) (hlim : s₁.heap.NoLimit) (hg : s₁.gens = #[])
    (ha : s₁.heap.get? a = some { cls := .type "list", data := .seq vs.toArray }) (hi : IntsAre vs ns) (hl : ns.length ≤ sizeLine) (hr : Room k callerA)
    (F : ∀ base : Heap, K.In base → base.Ns mainGlobals mg → FnG P w K mg base k fa fd [x] sp) (hbind : ∀ (s : Shared) (u : Value), BindsTo s fd ⟨[u], []⟩ [(x, u)])
    (hsp : ∀ H : Hp, Only H → SqL K H a (ns.map V.int) → sp [.ref a] H (fun v _ => v = .bl true) fun _ _ _ => False) :
    codeAny (model P w) callerA (.call (.ref fa) ⟨[.ref a], []⟩) (fun r s' => r = .ok (.ret (.bool true)) ∧ OldK s₁.heap s'.heap ∧ s'.os = s₁.os ∧ AllBare s'.gens) s₁ := by
  -- H tracks the script or nothing
  suffices core : ∀ H : Hp, Only H → SqL K H a (ns.map V.int) → HOk P w H s₁.heap → (∀ b, H b ≠ none → b = a ∧ K.lookup a = none) →
      codeAny (model P w) callerA (.call (.ref fa) ⟨[.ref a], []⟩) (fun r s' => r = .ok (.ret (.bool true)) ∧ OldK s₁.heap s'.heap ∧ s'.os = s₁.os ∧ AllBare s'.gens) s₁ by
    cases e : K.lookup a with
    | none =>
      let H : Hp := fun b => if b = a then some (.frz { cls := .type "list", data := .seq vs.toArray } (.lst (ns.map V.int))) else none
      have at_a : H a = some (.frz { cls := .type "list", data := .seq vs.toArray } (.lst (ns.map V.int))) := if_pos rfl
      have off : ∀ b, b ≠ a → H b = none := fun b n => if_neg n
      refine core H (fun b => ?_) (.inl (.inr ⟨_, at_a⟩)) (fun b u z => ?_) fun b z => ⟨Classical.byContradiction fun n => z (off b n), e⟩
      · rcases Classical.em (b = a) with q | q
        · rw [q]; exact .inr ⟨_, _, at_a⟩
        · exact .inl (off b q)
      · rcases Classical.em (b = a) with q | q
        · subst q
          rw [at_a] at z
          cases z
          exact ⟨ha, by rw [List.length_map]; exact hl, vs, _, vals_ints hi, ha⟩
        · rw [off b q] at z; cases z
    | some o =>
      have z := KX a o e
      rw [ha] at z
      cases z
      refine core (fun _ => none) (fun _ => .inl rfl) (.inr ⟨_, vs.toArray, _, e, rfl, rfl, rfl, ?_, ?_⟩) (fun b u z => nomatch z) fun b z => absurd rfl z
      · rw [List.size_toArray, hi.length]; exact hl
      · simpa using vals_ints hi
  intro H only script hok tracked
  have free : ∀ {b : Addr} {o : Obj} {es : Array DictEntry} {ep : Nat}, s₁.heap.get? b = some o → o.data = .dict es ep → H b = none := by
    intro b o es ep e d
    refine Classical.byContradiction fun z => ?_
    obtain ⟨rfl, _⟩ := tracked b z
    rw [ha] at e
    cases e
    cases (show Data.seq vs.toArray _ = Data.dict es ep from d)
  have ns : ∀ {b : Addr} {m : Str → Option Value}, s₁.heap.Ns b m → (hidT s₁.heap H).Ns b m := fun {b m} ⟨o, es, ep, e, d, r⟩ => ⟨o, es, ep, hidT_get e (free e d), d, r⟩
  have kin : K.In (hidT s₁.heap H) := fun b o e => hidT_get (KX b o e) (Classical.byContradiction fun z => by
    obtain ⟨rfl, n⟩ := tracked b z
    rw [n] at e; cases e)
  obtain ⟨mc, l1, l2⟩ := hlim
  have e0 : Env0 P w K mg (hidT s₁.heap H) callerA [] s₁ H := ⟨rfl, ⟨kin, ns hns, ⟨mb, ns hb, hbb⟩, ⟨mc, ns l1, l2⟩⟩, fun b o e => of_hidT e, Nat.le_of_eq (hidT_size _ _), trivial, (fun b z => nomatch z), hok, .of_eq hg⟩
  refine codeAny_mono ((F _ kin (ns hns)).go callerA [] s₁ H ⟨[.ref a], []⟩ [.ref a] [.ref a] _ _ rfl hr e0 (hbind s₁ (.ref a)) (.cons rfl .nil) (hsp H only script)) fun r s' out => ?_
  match r, out with
  | .ok (.ret u), ⟨v, H', os, bare, un, hok', ru, q⟩ =>
    cases (show v = .bl true from q)
    cases (show u = Value.bool true from ru)
    refine ⟨rfl, OldK.of_keep fun b o e => ?_, os, bare⟩
    rcases only b with z | ⟨ob, xs, z⟩
    · exact un.keep b o e z (by intro m; cases m) (by simp)
    · have h1 := (hok b _ z).1
      rw [e] at h1; cases h1
      exact (hok' b _ (un.frzs b _ _ z)).1
theorem walkG {l : PySem.W.OpenLaw} {n k : Nat} {q : Program} {loose : List Str} {XP : (Str → Option Value) → Heap → Prop} {YP : World → Heap → Prop} {d : DefRec} {K : Params → PySem.W.Frag} {sp : World → Sp} {x : Str}
    (hn : l.most = some n) (hn2 : n ≤ sizeLine) (hdf : d.params.defaults = []) (hr : Room k callerA)
    (hY : ∀ (w : World) (h : Heap), YP w h → (K w.params).In h)
    (F : ∀ (w : World) (mg : Str → Option Value) (fa : Addr) (h : Heap), (K w.params).In h → h.Ns mainGlobals mg → mg d.name = some (.ref fa) →
      ∃ fd : FuncData, (∀ (s : Shared) (u : Value), BindsTo s fd ⟨[u], []⟩ [(x, u)]) ∧
        ∀ base : Heap, (K w.params).In base → base.Ns mainGlobals mg → FnG l.prog w (K w.params) mg base k fa fd [x] (sp w))
    (hsp : ∀ (w : World) (H : Hp) (a : Addr) (ns : List Int), ns.length ≤ n → Only H → SqL (K w.params) H a (ns.map V.int) → sp w [.ref a] H (fun v _ => v = .bl true) fun _ _ _ => False) :
    PySem.W.WalkO q loose XP YP l.row.toRowW d [] (fun f vs => PySem.call f vs) := by
  refine Att.attach_call hn hdf fun w s₀ s₁ mg mb fa o pm cd doc a vs ns G Y ho hd hcd hmg hobj hints hlen hg => ?_
  obtain ⟨fd, hb, hF⟩ := F w mg fa _ (hY w _ Y) G.T.g hmg
  exact callG (hY w _ Y) G.T.g G.T.b G.T.builtins G.T.nolimit hg hobj hints (Nat.le_trans hlen hn2) hr hF hb fun H hO hS => hsp w H a ns hlen hO hS
end L2.EV

/-! EV, part M: the opening of the source; the law as a whole. -/
namespace L2.EV
open PySem PySem.Spec PyProof.Rows

abbrev rInt1 : List V → Hp → VK → Prop := fun xs H Q => (∃ i, xs = [.int i] ∧ Q (.int i) H) ∨ ∃ k, xs = [.bl k] ∧ Q (.int (if k then 1 else 0)) H
abbrev rAbs1 : List V → Hp → VK → Prop := fun xs H Q => ∃ i, xs = [.int i] ∧ Q (.int (if i < 0 then -i else i)) H
abbrev rAddI : R2 := rI0 fun i j => .int (i + j)
abbrev rMulI : R2 := rI CMul fun i j => .int (i * j)
abbrev rModI : R2 := rI (fun _ j => 0 < j) fun i j => .int (i % j)
/-- the reading of the opening: slots 0 script, 1 stirred, 2 cell, 3 cells -/
def tOpen (K : PySem.W.Frag) : TS :=
  tSeq (tAsg (tC (.int 11)) (gName 1))
  (tSeq (tFor (iList K (tVar 0)) (gName 2) (tAsg (tOp rModI (tCB rInt1 (tCons (tOp rAddI (tOp rAddI (tOp rMulI (tVar 1) (tC (.int 69069))) (tOp rMulI (tVar 2) (tC (.int 31)))) (tC (.int 5))) tNil)) (tC (.int 2147483629))) (gName 1)))
  (tSeq (tAsg (tLc (iList K (tVar 0)) (gName 2) tYes (tCB rAbs1 (tCons (tVar 2) tNil)) [2]) (gName 3))
  (tRet (tDisp [(tC (.str "cells"), tRevL K (tVar 3)), (tC (.str "left"), tC (.int 1)), (tC (.str "mixed"), tVar 1), (tC (.str "turn"), tC (.int 0))]))))
theorem merge4 (v1 v2 v3 v4 : V) : mergeK [] [(.inr "cells", v1), (.inr "left", v2), (.inr "mixed", v3), (.inr "turn", v4)] = [(.inr "cells", v1), (.inr "left", v2), (.inr "mixed", v3), (.inr "turn", v4)] := by
  have d1 : (Str.ofString "cells" = Str.ofString "left") = False := by decide
  have d2 : (Str.ofString "cells" = Str.ofString "mixed") = False := by decide
  have d3 : (Str.ofString "cells" = Str.ofString "turn") = False := by decide
  have d4 : (Str.ofString "left" = Str.ofString "mixed") = False := by decide
  have d5 : (Str.ofString "left" = Str.ofString "turn") = False := by decide
  have d7 : (Str.ofString "mixed" = Str.ofString "turn") = False := by decide
  simp [mergeK, putK, d1, d2, d3, d4, d5, d7]
def spOpen (K : PySem.W.Frag) : Sp := fun vs H Q _ => ∃ (a : Addr) (ns : List Int), vs = [.ref a] ∧ SqL K H a (ns.map V.int) ∧ ns.length ≤ 63 ∧
  ∀ (H' : Hp) (sa ca : Addr) (S : Src), Same H H' → sa ≠ ca → H' sa = some (.dK (srcK ca S)) → H' ca = some (.lst (S.cells.map V.int)) → Q (.ref sa) H'
theorem open_sem {K : PySem.W.Frag} {a : Addr} {ns : List Int} {H : Hp} {Q : VK} {σ : St} {x1 x2 x3 : Option V} (hσ : σ = [some (.ref a), x1, x2, x3]) (hS : SqL K H a (ns.map V.int)) (hl : ns.length ≤ 63)
    (q : ∀ (H' : Hp) (sa ca : Addr) (S : Src), Same H H' → sa ≠ ca → H' sa = some (.dK (srcK ca S)) → H' ca = some (.lst (S.cells.map V.int)) → Q (.ref sa) H') {nx : St → Hp → Prop} : tOpen K { nx := nx, rt := Q } σ H := by
  subst hσ
  refine ⟨.ref a, rfl, a, rfl, ⟨_, hS⟩, ?_⟩
  refine for_it walk_list (fun i σ2 H2 => H2 = H ∧ ∃ (m : Int) (y : Option V), σ2 = [some (.ref a), some (.int m), y, x3]) ⟨rfl, 11, _, rfl⟩ (fun i σ2 H2 _ h => by rw [h.1]; exact hS) ?_ ?_
  · rintro i x σ2 H2 H3 hi ⟨rfl, m, y, rfl⟩ ⟨rfl, hx⟩
    rw [List.length_map] at hi
    rw [List.getElem?_map, List.getElem?_eq_getElem hi] at hx
    cases hx
    refine ⟨.int m, rfl, m, 69069, rfl, rfl, .inr ⟨by decide, by decide⟩, .int ns[i], rfl, ns[i], 31, rfl, rfl, .inr ⟨by decide, by decide⟩, _, _, rfl, rfl, _, 5, rfl, rfl, .inl ⟨_, rfl, _, 2147483629, rfl, rfl, (by decide : (0 : Int) < 2147483629), ?_⟩⟩
    exact ⟨rfl, _, _, rfl⟩
  · rintro σ2 H2 ⟨rfl, m, y, rfl⟩
    refine ⟨.ref a, rfl, a, rfl, ⟨_, hS⟩, fun D hD => ?_⟩
    have sD : Same H2 (upd H2 D (.lst [])) := fun b o e => upd_keep hD e
    refine lc_it walk_list (fun i H3 => Same H2 H3 ∧ ∃ cs : List Int, H3 D = some (.lst (cs.map V.int)) ∧ cs.length = i) ⟨sD, [], upd_same, rfl⟩ (fun i H3 _ h => h.1.seq hS) ?_ ?_
    · rintro i x H3 H4 hi ⟨sm, cs, hH, hc⟩ ⟨rfl, hx⟩
      have hi' := hi
      rw [List.length_map] at hi'
      rw [List.getElem?_map, List.getElem?_eq_getElem hi'] at hx
      cases hx
      refine ⟨rfl, ?_⟩
      show tCB rAbs1 (tCons (tVar 2) tNil) _ H4 _
      refine ⟨.int ns[i], rfl, _, rfl, cs.map V.int, hH, ?_, fun b o e => ?_, cs ++ [if ns[i] < 0 then -ns[i] else ns[i]], ?_, by simp [hc]⟩
      · rw [List.length_map, hc]; exact Nat.lt_of_lt_of_le hi' (Nat.le_trans hl (by decide))
      · rw [upd_ne (ne_of_none e hD)]; exact sm b o e
      · rw [upd_same, List.map_append]; rfl
    · rintro H3 ⟨sm, cs, hH, hc⟩
      intro p hp
      refine ⟨.ref D, rfl, D, cs.map V.int, rfl, .of (upd_keep hp hH), fun c hc' => ?_⟩
      have hcp : c ≠ p := fun e => by rw [e, upd_same] at hc'; cases hc'
      have hpc : p ≠ c := fun e => hcp e.symm
      have e1 : upd (upd H3 p (.dK [])) c (.lst (cs.map V.int).reverse) p = some (.dK []) := by rw [upd_ne hpc, upd_same]
      refine ⟨.int m, rfl, e1, [(.inr "cells", .ref c), (.inr "left", .int 1), (.inr "mixed", .int m), (.inr "turn", .int 0)], rfl, (by decide : 4 ≤ 15), ?_⟩
      refine q _ p c ⟨cs.reverse, 1, m, 0⟩ (fun b o e => ?_) hpc ?_ ?_
      · have h1 := sm b o e
        rw [upd_ne (ne_of_none h1 hp), upd_ne (fun z => by rw [z] at h1; rw [upd_ne hcp, h1] at hc'; cases hc'), upd_ne (ne_of_none h1 hp)]
        exact h1
      · rw [upd_same, merge4]
        rfl
      · rw [upd_ne hcp, upd_same, List.map_reverse]

/-! ### the law -/
def spLaw (K : PySem.W.Frag) : Sp := fun vs H Q _ => ∃ (a : Addr) (ns : List Int), vs = [.ref a] ∧ SqL K H a (ns.map V.int) ∧ ns.length ≤ 63 ∧ ∀ H', Q (.bl true) H'
abbrev tLaw1 (K : PySem.W.Frag) : TS := tAsg (tCall (spOpen K) [] E0 (tCons (tVar 0) tNil)) (gName 1)
structure LawB (X : Cx) (sts : List Stmt) (f : Ev → M Out) : Prop where
  ex : ∃ tr, PSs X sts (tSeq (tLaw1 X.K) tr) ∧ TSv tr f
theorem lawb {X : Cx} {st : Stmt} {sts : List Stmt} {f : Ev → M Out} (p : PS X st (tLaw1 X.K)) (h : SSs X sts f) : LawB X (st :: sts) f := by
  obtain ⟨tr, p2, q2⟩ := h.ex
  exact ⟨tr, pss_cons p p2, q2⟩
def lawE (n : Nat) : Ev := none :: some (.s .src) :: List.replicate (n - 2) none
theorem law_fn {P : Program} {w : World} {K : PySem.W.Frag} {mg : Str → Option Value} {base : Heap} {x qual : Str} {st : Stmt} {f : Addr} {fd : FuncData} {N : List Str} {k : Nat} {fb : Ev → M Out} (F : Fun K x qual st f fd) {p0 : Str} (S : FnScope N [p0] (defScope st)) (hN : 2 ≤ N.length)
    (body : ∀ (cdv : Value) (A : Around) (outer : List Env) (s : Shared) (H : Hp) (E : XK), A.guards = some [] → Room k (A.deeper (envOfC qual (defScope st) s.heap.objs.size f cdv)) → LawB (cxOf CX0 P w K mg base N qual (defScope st) f cdv A outer s H E).nox (defBody st) fb)
    (true_ : ∀ S : Src, ∃ S', fb (lawE N.length) S = some (.rt (.bl true), S')) : FnG P w K mg base (k + 1) f fd [p0] (spLaw K) := by
  refine fnG_body F S (fun vs H Q E h => ?_) fun cdv A outer s H vs Q E hg hr h => ?_
  · obtain ⟨a, ns, rfl, _⟩ := h
    rfl
  · obtain ⟨a, ns, rfl, hS, hl, q⟩ := h
    obtain ⟨tr, p, ht⟩ := (body cdv A outer s H E hg hr).ex
    refine ⟨_, p, ?_⟩
    refine ⟨.ref a, rfl, a, ns, rfl, hS, hl, fun H' sa ca S sm hne h1 h2 => ?_⟩
    obtain ⟨S', e⟩ := true_ S
    let W : Wd := ⟨fun _ => False, fun _ => False, sa, ca⟩
    have w : WRel W H' S := ⟨h1, h2, fun a h => h.elim id id |>.elim, fun a h => (h.elim id id : False).elim, fun a h => h.elim, fun a h => h.elim⟩
    have er : EnvRel W H' ((start N [.ref a]).set 1 (some (.ref sa))) (lawE N.length) := by
      have e1 : (start N [V.ref a]).set 1 (some (.ref sa)) = some (V.ref a) :: some (V.ref sa) :: List.replicate (N.length - 2) none := by
        unfold start
        obtain ⟨m, hm⟩ : ∃ m, N.length = m + 2 := ⟨N.length - 2, by omega⟩
        rw [hm]
        rfl
      rw [e1]
      refine ⟨by simp [lawE], fun i c h => ?_, fun i j b d d' h => ?_⟩
      · match i, h with
        | 0, h => cases h
        | 1, h => cases h; exact ⟨_, rfl, .src⟩
        | i + 2, h =>
          have h : (List.replicate (N.length - 2) (none : Option Cell))[i]? = some (some c) := h
          rw [List.getElem?_replicate] at h
          split at h <;> cases h
      · match i, h with
        | 0, h => cases h
        | 1, h => cases h
        | i + 2, h =>
          have h : (List.replicate (N.length - 2) (none : Option Cell))[i]? = some (some (.o d)) := h
          rw [List.getElem?_replicate] at h
          split at h <;> cases h
    refine ht W _ H' (lawE N.length) S _ S' _ w er e fun W' v H2 _ _ r => ?_
    cases r
    exact q H2
end L2.EV

/-! EV, part N: small rules for the printer. -/
namespace L2.EV
open PySem PySem.Spec PyProof.Rows
section
variable {X : Cx} {x : Str} {px ps pst : Pos} {e k : Expr} {fk fv : Ev → M D}
theorem ss_putE (i : Nat) (hu : X.A.units + 1 < cLine) (he : EE X e fv) (hk : EI X k fk) (hN : X.N[i]? = some x := by rfl) (hv : Vis X.env.scope x := by first | exact Or.inl rfl | exact Or.inr (Or.inl rfl) | exact Or.inr (Or.inr rfl)) (hd : (x == ("__debug__" : Str)) = false := by decide)
    (hcd : (x == ("__classdict__" : Str)) = false := by decide)
    (ha : ∀ v, assign (.Subscript (.Name x px) k ps) X.env v = (do
      let ov ← holding [v] (eval (.Name x px) X.env)
      let iv ← holding [v, ov] (eval k X.env)
      standAt ps
      holding [v, ov, iv] (setItem ov iv v)
      release [v, ov, iv] []) := by intro _; rfl)
    (hs : swapsWithSole [.Subscript (.Name x px) k ps] e pst.line X.env = pure false := by rfl) (hw : swappedStores [.Subscript (.Name x px) k ps] e X.env = pure none := by rfl)
    (h1 : (assignEach [.Subscript (.Name x px) k ps] X.env).map (·.2) = [assign (.Subscript (.Name x px) k ps) X.env] := by rfl) : SS X (.Assign [.Subscript (.Name x px) k ps] e pst) (sPut i fk fv) := by
  obtain ⟨t, p, q⟩ := he.ex
  obtain ⟨u, p2, q2⟩ := hk.ex
  exact ss_put i q q2 (ps_asg p (pg_sub (pe_var hN hv hd hcd) p2 (set_all hu) ha) hs hw h1)
theorem ee_neg {i : Int} {j : Nat} {p1 p2 : Pos} : EE X (.UnaryOp .USub (.Constant (.int i) j p1) p2) (eC (.int (-i))) := by
  refine ⟨_, pe_un un_neg pe_int, fun W σ H ρ S d S' Q w er hf k => ?_⟩
  obtain ⟨rfl, rfl⟩ := M.pure_eq hf
  exact ⟨i, rfl, k _ H (.refl _ _) w (.int _)⟩
end
end L2.EV

/-! EV, part P: what the shallow functions give: wp, loops, encodings, operators. -/
namespace L2.EV
open PySem PySem.Spec PyProof.Rows

/-! ### wp -/
def wp {α : Type} (m : M α) (S : Src) (Q : α → Src → Prop) : Prop := ∃ a S', m S = some (a, S') ∧ Q a S'
section
variable {α β : Type} {m : M α} {f : α → M β} {S : Src} {Q : α → Src → Prop} {R : β → Src → Prop} {a : α}
theorem wp_pure : wp (pure a) S Q ↔ Q a S := ⟨fun ⟨b, S', h, q⟩ => by obtain ⟨rfl, rfl⟩ := M.pure_eq h; exact q, fun q => ⟨a, S, rfl, q⟩⟩
theorem wp_bind : wp (m >>= f) S R ↔ wp m S fun a S' => wp (f a) S' R := by
  constructor
  · rintro ⟨b, S', h, q⟩
    obtain ⟨a, S1, h1, h2⟩ := M.bind_eq h
    exact ⟨a, S1, h1, b, S', h2, q⟩
  · rintro ⟨a, S1, h1, b, S', h2, q⟩
    exact ⟨b, S', M.bind_app h1 h2, q⟩
theorem wp_some : wp (M.of (some a)) S Q ↔ Q a S := wp_pure
theorem wp_of {o : Option α} (h : o = some a) : wp (M.of o) S Q ↔ Q a S := by rw [h]; exact wp_some
theorem wp_mono {Q' : α → Src → Prop} (h : wp m S Q) (k : ∀ a S', Q a S' → Q' a S') : wp m S Q' := let ⟨a, S', e, q⟩ := h; ⟨a, S', e, k a S' q⟩
theorem wp_ite {c : Prop} [Decidable c] {m1 m2 : M α} : wp (if c then m1 else m2) S Q ↔ if c then wp m1 S Q else wp m2 S Q := by split <;> rfl
theorem eq_pure {d : α} (h : ∀ S, wp m S fun a S' => a = d ∧ S' = S) : m = pure d := by
  funext S
  obtain ⟨a, S', e, rfl, rfl⟩ := h S
  exact e
theorem bind_of {m : M α} {a : α} {f : α → M β} {r : M β} (h : m = pure a) (k : f a = r) : (m >>= f) = r := by rw [h, pure_bind]; exact k
theorem wp_of_eq {d : α} (h : m = pure d) (k : Q d S) : wp m S Q := by rw [h]; exact wp_pure.mpr k
theorem wp_eq {d : α} (h : m = pure d) : wp m S Q ↔ Q d S := by rw [h]; exact wp_pure
end

/-! ### loops -/
section
variable {α : Type} {xs : List α} (e : α → D) {g : D → Ev → Option Ev} {ft : Ev → M Bool} {fe : Ev → M D} {fb : Ev → M Out} {fc : Ev → M Bool} {ρ : Ev} {S : Src}
theorem wp_comp {Q : List D → Src → Prop} (P : Nat → List D → Src → Prop) (h0 : P 0 [] S)
    (hs : ∀ i x acc S, xs[i]? = some x → P i acc S → ∃ ρ1, g (e x) ρ = some ρ1 ∧ wp (ft ρ1) S fun b S1 => if b = true then wp (fe ρ1) S1 fun y S2 => P (i + 1) (acc ++ [y]) S2 else P (i + 1) acc S1)
    (hd : ∀ acc S, P xs.length acc S → Q acc S) : wp (compL g ft fe (xs.map e) ρ) S Q := by
  suffices H : ∀ (ys : List α) (i : Nat) (acc : List D) (S : Src), i + ys.length = xs.length → (∀ j, ys[j]? = xs[i + j]?) → P i acc S → wp (compL g ft fe (ys.map e) ρ) S fun zs S' => Q (acc ++ zs) S' by
    exact wp_mono (H xs 0 [] S (by simp) (fun j => by simp) h0) fun a S' q => by simpa using q
  intro ys
  induction ys with
  | nil => intro i acc S hl _ hp; rw [List.map_nil, compL, wp_pure, List.append_nil]; exact hd _ _ (by simpa [← hl] using hp)
  | cons y ys ih =>
    intro i acc S hl hg hp
    rw [List.map_cons, compL]
    obtain ⟨ρ1, h1, h2⟩ := hs i y acc S (by rw [← Nat.add_zero i, ← hg 0]; rfl) hp
    rw [wp_bind, wp_of h1, wp_bind]
    refine wp_mono h2 fun b S1 h3 => ?_
    have hl' : i + 1 + ys.length = xs.length := by rw [List.length_cons] at hl; omega
    have hg' : ∀ j, ys[j]? = xs[i + 1 + j]? := fun j => by have := hg (j + 1); rw [List.getElem?_cons_succ] at this; rw [this]; congr 1; omega
    cases b with
    | true =>
      rw [if_pos rfl] at h3 ⊢
      rw [wp_bind]
      refine wp_mono h3 fun z S2 h4 => ?_
      rw [wp_bind]
      refine wp_mono (ih (i + 1) (acc ++ [z]) S2 hl' hg' h4) fun zs S3 h5 => ?_
      rw [wp_pure]
      rw [List.append_assoc] at h5
      exact h5
    | false =>
      rw [if_neg Bool.false_ne_true] at h3 ⊢
      exact ih (i + 1) acc S1 hl' hg' h3
theorem comp_pure (t : α → Bool) (h : α → D) (hs : ∀ x ∈ xs, ∃ ρ1, g (e x) ρ = some ρ1 ∧ ft ρ1 = pure (t x) ∧ (t x = true → fe ρ1 = pure (h x))) : compL g ft fe (xs.map e) ρ = pure ((xs.filter t).map h) := by
  induction xs with
  | nil => rfl
  | cons x xs ih =>
    obtain ⟨ρ1, h1, h2, h3⟩ := hs x List.mem_cons_self
    rw [List.map_cons, compL, h1, M.of_some, pure_bind, h2, pure_bind, ih fun y hy => hs y (List.mem_cons_of_mem _ hy)]
    cases q : t x with
    | true => rw [if_pos rfl, h3 q, pure_bind, pure_bind, List.filter_cons_of_pos q]; rfl
    | false => rw [if_neg Bool.false_ne_true, List.filter_cons_of_neg (by simp [q])]
theorem comp_map (h : α → D) (hs : ∀ x ∈ xs, ∃ ρ1, g (e x) ρ = some ρ1 ∧ fe ρ1 = pure (h x)) : compL g bYes fe (xs.map e) ρ = pure (xs.map h) := by
  have q := comp_pure (xs := xs) (ft := bYes) e (fun _ => true) h fun x hx => let ⟨ρ1, h1, h2⟩ := hs x hx; ⟨ρ1, h1, rfl, fun _ => h2⟩
  rw [List.filter_eq_self.mpr fun _ _ => rfl] at q
  exact q
def forQ (P : Ev → Src → Prop) (Q : Out → Src → Prop) : Out → Src → Prop
  | .nx ρ, S => P ρ S
  | .ct ρ, S => P ρ S
  | .bk ρ, S => Q (.nx ρ) S
  | .rt d, S => Q (.rt d) S
theorem wp_for {Q : Out → Src → Prop} (P : Nat → Ev → Src → Prop) (h0 : P 0 ρ S)
    (hs : ∀ i x ρ S, xs[i]? = some x → P i ρ S → ∃ ρ1, g (e x) ρ = some ρ1 ∧ wp (fb ρ1) S (forQ (P (i + 1)) Q))
    (hd : ∀ ρ S, P xs.length ρ S → Q (.nx ρ) S) : wp (forS g fb (xs.map e) ρ) S Q := by
  suffices H : ∀ (ys : List α) (i : Nat) (ρ : Ev) (S : Src), i + ys.length = xs.length → (∀ j, ys[j]? = xs[i + j]?) → P i ρ S → wp (forS g fb (ys.map e) ρ) S Q by
    exact H xs 0 ρ S (by simp) (fun j => by simp) h0
  intro ys
  induction ys with
  | nil => intro i ρ S hl _ hp; rw [List.map_nil, forS, wp_pure]; exact hd _ _ (by simpa [← hl] using hp)
  | cons y ys ih =>
    intro i ρ S hl hg hp
    rw [List.map_cons, forS]
    obtain ⟨ρ1, h1, h2⟩ := hs i y ρ S (by rw [← Nat.add_zero i, ← hg 0]; rfl) hp
    rw [wp_bind, wp_of h1, wp_bind]
    have hl' : i + 1 + ys.length = xs.length := by rw [List.length_cons] at hl; omega
    have hg' : ∀ j, ys[j]? = xs[i + 1 + j]? := fun j => by have := hg (j + 1); rw [List.getElem?_cons_succ] at this; rw [this]; congr 1; omega
    refine wp_mono h2 fun o S1 h3 => ?_
    cases o with
    | nx ρ2 => exact ih (i + 1) ρ2 S1 hl' hg' h3
    | ct ρ2 => exact ih (i + 1) ρ2 S1 hl' hg' h3
    | bk ρ2 => exact wp_pure.mpr h3
    | rt d => exact wp_pure.mpr h3
theorem wp_while {Q : Out → Src → Prop} (P : Nat → Ev → Src → Prop) {n m : Nat} (hm : m < n) (h0 : P m ρ S)
    (hs : ∀ m ρ S, P m ρ S → wp (fc ρ) S fun b S1 => if b = true then wp (fb ρ) S1 (forQ (fun ρ2 S2 => ∃ m', m' < m ∧ P m' ρ2 S2) Q) else Q (.nx ρ) S1) : wp (whileS fc fb n ρ) S Q := by
  induction n generalizing m ρ S with
  | zero => omega
  | succ n ih =>
    rw [whileS, wp_bind]
    refine wp_mono (hs m ρ S h0) fun b S1 h1 => ?_
    cases b with
    | false => rw [if_neg Bool.false_ne_true] at h1 ⊢; exact wp_pure.mpr h1
    | true =>
      rw [if_pos rfl] at h1 ⊢
      rw [wp_bind]
      refine wp_mono h1 fun o S2 h2 => ?_
      cases o with
      | nx ρ2 => obtain ⟨m', hl, hp⟩ := h2; exact ih (m := m') (by omega) hp
      | ct ρ2 => obtain ⟨m', hl, hp⟩ := h2; exact ih (m := m') (by omega) hp
      | bk ρ2 => exact wp_pure.mpr h2
      | rt d => exact wp_pure.mpr h2
end

/-! ### encodings -/
def eN (n : Nat) : D := .int n
def eT {α : Type} (e : α → D) (xs : List α) : D := .tup (xs.map e)
def eL {α : Type} (e : α → D) (xs : List α) : D := .lst (xs.map e)
def eP {α β : Type} (e : α → D) (f : β → D) (p : α × β) : D := .tup [e p.1, f p.2]
structure Good {α : Type} [DecidableEq α] (e : α → D) (k : Nat) : Prop where
  py : ∀ a, ∃ p, D.py (e a) = some p ∧ p.canLay0 = true ∧ p.depth ≤ k
  eqv : ∀ a b p q, D.py (e a) = some p → D.py (e b) = some q → PyData.eqv p q = decide (a = b)
section
variable {α β : Type} [DecidableEq α] [DecidableEq β] {e : α → D} {f : β → D} {k j : Nat}
theorem good_int : Good D.int 0 := ⟨fun a => ⟨.int a, by simp [D.py], by simp [PyData.canLay0], by simp [PyData.depth]⟩, fun a b p q h1 h2 => by
  simp only [D.py, Option.some.injEq] at h1 h2
  subst h1 h2
  simp only [PyData.eqv]
  exact Bool.beq_eq_decide_eq a b⟩
theorem good_N : Good eN 0 := ⟨fun a => good_int.py a, fun a b p q h1 h2 => by
  rw [good_int.eqv _ _ p q h1 h2]
  exact decide_eq_decide.mpr (by omega)⟩
theorem good_bl : Good D.bl 0 := ⟨fun a => ⟨.bool a, by simp [D.py], by simp [PyData.canLay0], by simp [PyData.depth]⟩, fun a b p q h1 h2 => by
  simp only [D.py, Option.some.injEq] at h1 h2
  subst h1 h2
  simp only [PyData.eqv]
  exact Bool.beq_eq_decide_eq a b⟩
theorem Good.all (h : Good e k) : ∀ xs : List α, ∃ ps, pyAll (xs.map e) = some ps ∧ PyData.canLayAll0 ps = true ∧ PyData.depthAll ps ≤ k
  | [] => ⟨[], by simp [pyAll], by simp [PyData.canLayAll0], by simp [PyData.depthAll]⟩
  | x :: xs => by
    obtain ⟨p, h1, h2, h3⟩ := h.py x
    obtain ⟨ps, h4, h5, h6⟩ := Good.all h xs
    refine ⟨p :: ps, by simp [pyAll, h1, h4], by simp [PyData.canLayAll0, h2, h5], ?_⟩
    simp only [PyData.depthAll]
    omega
theorem Good.eqvAll (h : Good e k) : ∀ (xs ys : List α) ps qs, pyAll (xs.map e) = some ps → pyAll (ys.map e) = some qs → PyData.eqvAll ps qs = decide (xs = ys)
  | [], [], ps, qs, h1, h2 => by
    simp only [List.map_nil, pyAll, Option.some.injEq] at h1 h2
    subst h1 h2
    simp [PyData.eqvAll]
  | [], y :: ys, ps, qs, h1, h2 => by
    obtain ⟨q, g1, _⟩ := h.py y
    obtain ⟨rs, g2, _⟩ := h.all ys
    simp only [List.map_nil, List.map_cons, pyAll, g1, g2, Option.some.injEq] at h1 h2
    subst h1 h2
    simp [PyData.eqvAll]
  | x :: xs, [], ps, qs, h1, h2 => by
    obtain ⟨q, g1, _⟩ := h.py x
    obtain ⟨rs, g2, _⟩ := h.all xs
    simp only [List.map_nil, List.map_cons, pyAll, g1, g2, Option.some.injEq] at h1 h2
    subst h1 h2
    simp [PyData.eqvAll]
  | x :: xs, y :: ys, ps, qs, h1, h2 => by
    obtain ⟨p, g1, _⟩ := h.py x
    obtain ⟨rs, g2, _⟩ := h.all xs
    obtain ⟨q, g3, _⟩ := h.py y
    obtain ⟨ts, g4, _⟩ := h.all ys
    simp only [List.map_cons, pyAll, g1, g2, g3, g4, Option.some.injEq] at h1 h2
    subst h1 h2
    simp only [PyData.eqvAll]
    rw [h.eqv x y p q g1 g3, Good.eqvAll h xs ys rs ts g2 g4]
    by_cases c1 : x = y <;> by_cases c2 : xs = ys <;> simp [c1, c2]
theorem good_T (h : Good e k) : Good (eT e) (k + 1) := ⟨fun xs => by
  obtain ⟨ps, h1, h2, h3⟩ := h.all xs
  exact ⟨.tuple ps, by simp [eT, D.py, h1], by simp [PyData.canLay0, h2], by simp [PyData.depth]; omega⟩, fun a b p q h1 h2 => by
  obtain ⟨ps, g1, _⟩ := h.all a
  obtain ⟨qs, g2, _⟩ := h.all b
  simp only [eT, D.py, g1, g2, Option.map_some, Option.some.injEq] at h1 h2
  subst h1 h2
  simp only [PyData.eqv]
  exact h.eqvAll a b ps qs g1 g2⟩
theorem good_L (h : Good e k) : Good (eL e) (k + 1) := ⟨fun xs => by
  obtain ⟨ps, h1, h2, h3⟩ := h.all xs
  exact ⟨.list ps, by simp [eL, D.py, h1], by simp [PyData.canLay0, h2], by simp [PyData.depth]; omega⟩, fun a b p q h1 h2 => by
  obtain ⟨ps, g1, _⟩ := h.all a
  obtain ⟨qs, g2, _⟩ := h.all b
  simp only [eL, D.py, g1, g2, Option.map_some, Option.some.injEq] at h1 h2
  subst h1 h2
  simp only [PyData.eqv]
  exact h.eqvAll a b ps qs g1 g2⟩
theorem good_P (h : Good e k) (h' : Good f j) : Good (eP e f) (max k j + 1) := ⟨fun x => by
  obtain ⟨p, h1, h2, h3⟩ := h.py x.1
  obtain ⟨q, h4, h5, h6⟩ := h'.py x.2
  exact ⟨.tuple [p, q], by simp [eP, D.py, pyAll, h1, h4], by simp [PyData.canLay0, PyData.canLayAll0, h2, h5], by simp [PyData.depth, PyData.depthAll]; omega⟩, fun a b p q h1 h2 => by
  obtain ⟨p1, g1, _⟩ := h.py a.1
  obtain ⟨p2, g2, _⟩ := h'.py a.2
  obtain ⟨q1, g3, _⟩ := h.py b.1
  obtain ⟨q2, g4, _⟩ := h'.py b.2
  simp only [eP, D.py, pyAll, g1, g2, g3, g4, Option.map_some, Option.some.injEq] at h1 h2
  subst h1 h2
  simp only [PyData.eqv, PyData.eqvAll]
  rw [h.eqv _ _ p1 q1 g1 g3, h'.eqv _ _ p2 q2 g2 g4]
  obtain ⟨a1, a2⟩ := a
  obtain ⟨b1, b2⟩ := b
  by_cases c1 : a1 = b1 <;> by_cases c2 : a2 = b2 <;> simp [c1, c2]⟩
theorem dEqv_good (h : Good e k) (hk : k ≤ 64 := by omega) (a b : α) : dEqv (e a) (e b) = some (decide (a = b)) := by
  obtain ⟨p, h1, h2, h3⟩ := h.py a
  obtain ⟨q, h4, h5, h6⟩ := h.py b
  have s1 : SeqAt.shaped p = true := by simp [SeqAt.shaped, h2]; omega
  have s2 : SeqAt.shaped q = true := by simp [SeqAt.shaped, h5]; omega
  simp [dEqv, h1, h4, s1, s2, h.eqv a b p q h1 h4]
theorem dEq_good (h : Good e k) (hk : k ≤ 64 := by omega) (a b : α) : dEq (e a) (e b) = some (.bl (decide (a = b))) := by rw [dEq, dEqv_good h hk]; rfl
theorem dNe_good (h : Good e k) (hk : k ≤ 64 := by omega) (a b : α) : dNe (e a) (e b) = some (.bl (!decide (a = b))) := by rw [dNe, dEqv_good h hk]; rfl
theorem memD_good (h : Good e k) (hk : k + 1 ≤ 64 := by omega) (x : α) (xs : List α) : memD (e x) (xs.map e) = some (decide (x ∈ xs)) := by
  obtain ⟨p, h1, h2, h3⟩ := h.py x
  obtain ⟨ps, h4, h5, h6⟩ := h.all xs
  have s1 : SeqAt.shaped p = true := by simp [SeqAt.shaped, h2]; omega
  have s2 : SeqAt.shaped (.list ps) = true := by simp [SeqAt.shaped, PyData.canLay0, PyData.depth, h5]; omega
  have key : ∀ (xs : List α) ps, pyAll (xs.map e) = some ps → (ps.any fun z => PyData.eqv z p) = decide (x ∈ xs) := by
    intro xs
    induction xs with
    | nil => intro ps e1; simp only [List.map_nil, pyAll, Option.some.injEq] at e1; subst e1; simp
    | cons y ys ih =>
      intro ps e1
      obtain ⟨q, g1, _⟩ := h.py y
      obtain ⟨rs, g2, _⟩ := h.all ys
      simp only [List.map_cons, pyAll, g1, g2, Option.some.injEq] at e1
      subst e1
      rw [List.any_cons, h.eqv y x q p g1 h1, ih rs g2]
      by_cases c : y = x
      · simp [c]
      · have c' : ¬ x = y := fun z => c z.symm
        simp [c, c']
  simp [memD, h1, h4, s1, s2, key xs ps h4]
theorem dIn_L (h : Good e k) (hk : k + 1 ≤ 64 := by omega) (x : α) (xs : List α) : dIn (e x) (eL e xs) = some (.bl (decide (x ∈ xs))) := by show (memD (e x) (xs.map e)).map D.bl = _; rw [memD_good h hk]; rfl
theorem dIn_T (h : Good e k) (hk : k + 1 ≤ 64 := by omega) (x : α) (xs : List α) : dIn (e x) (eT e xs) = some (.bl (decide (x ∈ xs))) := by show (memD (e x) (xs.map e)).map D.bl = _; rw [memD_good h hk]; rfl
theorem dNotIn_L (h : Good e k) (hk : k + 1 ≤ 64 := by omega) (x : α) (xs : List α) : dNotIn (e x) (eL e xs) = some (.bl (!decide (x ∈ xs))) := by show ((memD (e x) (xs.map e)).map fun b => D.bl (!b)) = _; rw [memD_good h hk]; rfl
theorem dNotIn_T (h : Good e k) (hk : k + 1 ≤ 64 := by omega) (x : α) (xs : List α) : dNotIn (e x) (eT e xs) = some (.bl (!decide (x ∈ xs))) := by show ((memD (e x) (xs.map e)).map fun b => D.bl (!b)) = _; rw [memD_good h hk]; rfl
end
section
variable {α : Type} {e : α → D} {xs ys : List α}
theorem seqOf_L : seqOf (eL e xs) = some (xs.map e) := rfl
theorem seqOf_T : seqOf (eT e xs) = some (xs.map e) := rfl
theorem dList_L : dList [eL e xs] = some (eL e xs) := rfl
theorem dList_T : dList [eT e xs] = some (eL e xs) := rfl
theorem dTuple_L : dTuple [eL e xs] = some (eT e xs) := rfl
theorem dTuple_T : dTuple [eT e xs] = some (eT e xs) := rfl
theorem dLen_L : dLen [eL e xs] = some (eN xs.length) := by simp [eL, dLen, eN]
theorem dLen_T : dLen [eT e xs] = some (eN xs.length) := by simp [eT, dLen, eN]
theorem dAdd_L (h : xs.length + ys.length ≤ sizeLine) : dAdd (eL e xs) (eL e ys) = some (eL e (xs ++ ys)) := by simp [dAdd, eL, h]
theorem dAdd_T (h : xs.length + ys.length ≤ sizeLine) : dAdd (eT e xs) (eT e ys) = some (eT e (xs ++ ys)) := by simp [dAdd, eT, h]
theorem dAdd_N (a b : Nat) : dAdd (eN a) (eN b) = some (eN (a + b)) := by simp [dAdd, eN]
theorem dIx_L (i : Nat) {x : α} (h : xs[i]? = some x) : dIx (eL e xs) (eN i) = some (e x) := by
  have hl : i < xs.length := (List.getElem?_eq_some_iff.mp h).1
  simp only [dIx, eL, eN]
  exact atI_nat (by rw [List.getElem?_map, h]; rfl)
theorem dIx_T (i : Nat) {x : α} (h : xs[i]? = some x) : dIx (eT e xs) (eN i) = some (e x) := by
  simp only [dIx, eT, eN]
  exact atI_nat (by rw [List.getElem?_map, h]; rfl)
theorem rng1_N (n : Nat) (h : n < 1000000) : rng1 [eN n] = some ((List.range n).map eN) := by
  have c : okR (n : Int) = true := by unfold okR; rw [decide_eq_true_eq]; omega
  show (if okR (n : Int) = true then some (rangeD 0 (n : Int).toNat) else none) = _
  rw [if_pos c, Int.toNat_natCast]
  refine congrArg some (List.map_congr_left fun i _ => ?_)
  show D.int (0 + (i : Int)) = D.int i
  rw [Int.zero_add]
theorem rng2_N (m n : Nat) (hm : m < 1000000) (h : n < 1000000) : rng2 [eN m, eN n] = some ((List.range' m (n - m)).map eN) := by
  have c1 : okR (m : Int) = true := by unfold okR; rw [decide_eq_true_eq]; omega
  have c2 : okR (n : Int) = true := by unfold okR; rw [decide_eq_true_eq]; omega
  show (if (okR (m : Int) && okR (n : Int)) = true then some (rangeD m ((n : Int) - (m : Int)).toNat) else none) = _
  have e1 : ((n : Int) - (m : Int)).toNat = n - m := by omega
  rw [c1, c2, Bool.and_self, if_pos rfl, e1, List.range'_eq_map_range, List.map_map]
  refine congrArg some (List.map_congr_left fun i _ => ?_)
  show D.int ((m : Int) + (i : Int)) = D.int ((m + i : Nat) : Int)
  rw [Int.natCast_add]
theorem short_map (h : xs.length ≤ sizeLine) : short (xs.map e) = some (xs.map e) := by unfold short; rw [List.length_map, if_pos h]
end
end L2.EV

/-! EV, part Q: texts compared, what repr tells, sorted, dicts by tuples of numbers. -/
namespace L2.EV
open PySem PySem.Spec PyProof.Rows

/-! ### texts compared -/
def dNeS (x y : D) : Option D := match x, y with
  | .str a, .str b => some (.bl (!decide (a = b)))
  | _, _ => none
def dEqS (x y : D) : Option D := match x, y with
  | .str a, .str b => some (.bl (decide (a = b)))
  | _, _ => none
theorem opv_neS : OpV rNe dNeS := by
  intro W H S v u x y d Q w rx ry h k
  unfold dNeS at h
  split at h
  · rename_i a b
    cases h
    rw [rx.str, ry.str]
    refine ⟨rfl, ?_⟩
    have e : (!decide (V.str a = V.str b)) = !decide (a = b) := congrArg _ (decide_eq_decide.mpr ⟨fun e => V.str.inj e, fun e => by rw [e]⟩)
    rw [e]
    exact k _ H (.refl _ _) w (.bl _)
  · cases h
theorem opv_eqS : OpV rEq dEqS := by
  intro W H S v u x y d Q w rx ry h k
  unfold dEqS at h
  split at h
  · rename_i a b
    cases h
    rw [rx.str, ry.str]
    refine ⟨rfl, ?_⟩
    have e : (decide (V.str a = V.str b)) = decide (a = b) := decide_eq_decide.mpr ⟨fun e => V.str.inj e, fun e => by rw [e]⟩
    rw [e]
    exact k _ H (.refl _ _) w (.bl _)
  · cases h

/-! ### what repr tells -/
structure Sh (d : D) (k w : Nat) : Prop where
  ex : ∃ p, D.py d = some p ∧ p.canLay0 = true ∧ p.depth ≤ k ∧ p.showable = true ∧ p.intsShort 13 = true ∧ p.weight ≤ w
theorem sh_int {i : Int} (h : i.natAbs < 10 ^ 12) : Sh (.int i) 0 41 := by
  have h2 : i.natAbs.log2 < 41 := by
    by_cases z : i.natAbs = 0
    · rw [z]; decide
    · exact (Nat.log2_lt z).mpr (Nat.lt_trans h (by decide))
  have h3 := int_text_length_le10 (k := 12) (by decide) h
  have h4 : (PyData.shown (.int i)).length ≤ 13 := by
    rw [PyData.shown]
    rw [show ((toString i : String) : Str).length = (toString i).length from PySem.ofString_length _]
    exact h3
  refine ⟨.int i, by simp [D.py], by simp [PyData.canLay0], by simp [PyData.depth], by simp only [PyData.showable, decide_eq_true_eq]; omega, by rw [PyData.intsShort, decide_eq_true_eq]; exact h4, ?_⟩
  simp only [PyData.weight]
  split <;> omega
theorem sh_N {n : Nat} (h : n < 10 ^ 12) : Sh (eN n) 0 41 := sh_int (by omega)
theorem sh_non : Sh .non 0 41 := ⟨.none, by simp [D.py], by simp [PyData.canLay0], by simp [PyData.depth], by simp [PyData.showable], by rw [PyData.intsShort], by simp [PyData.weight]⟩
theorem sh_bl (b : Bool) : Sh (.bl b) 0 41 := ⟨.bool b, by simp [D.py], by simp [PyData.canLay0], by simp [PyData.depth], by simp [PyData.showable], by rw [PyData.intsShort], by simp [PyData.weight]⟩
theorem sh_all {k w : Nat} : ∀ {ds : List D}, (∀ d ∈ ds, Sh d k w) → ∃ ps, pyAll ds = some ps ∧ PyData.canLayAll0 ps = true ∧ PyData.depthAll ps ≤ k ∧ PyData.showableAll ps = true ∧ PyData.intsShortAll 13 ps = true ∧ PyData.weightAll ps ≤ ds.length * (w + 1)
  | [], _ => ⟨[], by simp [pyAll], by simp [PyData.canLayAll0], by simp [PyData.depthAll], by simp [PyData.showableAll], by rw [PyData.intsShortAll], by simp [PyData.weightAll]⟩
  | d :: ds, h => by
    obtain ⟨p, a1, a2, a3, a4, a5, a6⟩ := (h d List.mem_cons_self).ex
    obtain ⟨ps, b1, b2, b3, b4, b5, b6⟩ := sh_all fun x hx => h x (List.mem_cons_of_mem _ hx)
    refine ⟨p :: ps, by simp [pyAll, a1, b1], by simp [PyData.canLayAll0, a2, b2], by simp only [PyData.depthAll]; omega, by simp [PyData.showableAll, a4, b4], by rw [PyData.intsShortAll, a5, b5]; rfl, ?_⟩
    simp only [PyData.weightAll, List.length_cons]
    rw [Nat.add_mul]
    omega
theorem sh_tup {k w n : Nat} {ds : List D} (h : ∀ d ∈ ds, Sh d k w) (hn : ds.length * (w + 1) ≤ n) : Sh (.tup ds) (k + 1) n := by
  obtain ⟨ps, b1, b2, b3, b4, b5, b6⟩ := sh_all h
  exact ⟨.tuple ps, by simp [D.py, b1], by simp [PyData.canLay0, b2], by simp only [PyData.depth]; omega, by simp [PyData.showable, b4], by rw [PyData.intsShort, b5], by simp only [PyData.weight]; omega⟩
theorem sh_lst {k w n : Nat} {ds : List D} (h : ∀ d ∈ ds, Sh d k w) (hn : ds.length * (w + 1) ≤ n) : Sh (.lst ds) (k + 1) n := by
  obtain ⟨ps, b1, b2, b3, b4, b5, b6⟩ := sh_all h
  exact ⟨.list ps, by simp [D.py, b1], by simp [PyData.canLay0, b2], by simp only [PyData.depth]; omega, by simp [PyData.showable, b4], by rw [PyData.intsShort, b5], by simp only [PyData.weight]; omega⟩
theorem Sh.mono {d : D} {k w k' w' : Nat} (h : Sh d k w) (hk : k ≤ k') (hw : w ≤ w') : Sh d k' w' := let ⟨p, a1, a2, a3, a4, a5, a6⟩ := h.ex; ⟨p, a1, a2, by omega, a4, a5, by omega⟩
theorem sh_T {α : Type} {e : α → D} {xs : List α} {k w n : Nat} (h : ∀ x ∈ xs, Sh (e x) k w) (hn : xs.length * (w + 1) ≤ n) : Sh (eT e xs) (k + 1) n :=
  sh_tup (fun d hd => by obtain ⟨x, hx, rfl⟩ := List.mem_map.mp hd; exact h x hx) (by rw [List.length_map]; exact hn)
theorem sh_L {α : Type} {e : α → D} {xs : List α} {k w n : Nat} (h : ∀ x ∈ xs, Sh (e x) k w) (hn : xs.length * (w + 1) ≤ n) : Sh (eL e xs) (k + 1) n :=
  sh_lst (fun d hd => by obtain ⟨x, hx, rfl⟩ := List.mem_map.mp hd; exact h x hx) (by rw [List.length_map]; exact hn)
def showD (d : D) : Str := (pyD d).shown
theorem dRepr_sh {d : D} {k w : Nat} (h : Sh d k w) (hk : k ≤ 64 := by omega) (hw : w ≤ 1048576 := by omega) : dRepr [d] = some (.str (showD d)) := by
  obtain ⟨p, a1, a2, a3, a4, a5, a6⟩ := h.ex
  have z : p.shown.length ≤ sizeLine := by
    have := PyData.shown_le 13 (by decide) p (PyData.leavesShort_of_canLay0 13 p a2 a5)
    rw [sizeLine_eq]
    omega
  have nd := PyData.hasDict_of_canLay p a2
  have d64 : p.depth ≤ 64 := by omega
  have e1 : showD d = p.shown := by unfold showD pyD; rw [a1]; rfl
  rw [e1]
  show (match D.py d with | some p => if p.showable && !p.hasDict && decide (p.depth ≤ 64) && decide (p.shown.length ≤ sizeLine) then some (D.str p.shown) else none | none => none) = _
  rw [a1]
  simp [a4, nd, d64, z]

/-! ### sorted -/
theorem sorted_ints (xs : List Nat) : dSorted [eL eN xs] = some (eL eN (xs.mergeSort fun a b => decide (a ≤ b))) := by
  have c : (∀ x ∈ xs.map eN, (D.py x).isSome = true ∧ (pyD x).depth ≤ 40) ∧ PySem.W.AllAlike ((xs.map eN).map pyD) ∧ PySem.W.Sortable ((xs.map eN).map pyD) := by
    refine ⟨fun x hx => ?_, fun d hd d' hd' => ?_, .inr fun d hd => ?_⟩
    · obtain ⟨n, _, rfl⟩ := List.mem_map.mp hx
      simp [eN, D.py, pyD, PyData.depth]
    · obtain ⟨x, hx, rfl⟩ := List.mem_map.mp hd
      obtain ⟨y, hy, rfl⟩ := List.mem_map.mp hd'
      obtain ⟨n, _, rfl⟩ := List.mem_map.mp hx
      obtain ⟨m, _, rfl⟩ := List.mem_map.mp hy
      simp [eN, pyD, D.py, PySem.W.alike]
    · obtain ⟨x, hx, rfl⟩ := List.mem_map.mp hd
      obtain ⟨n, _, rfl⟩ := List.mem_map.mp hx
      simp [eN, pyD, D.py]
  unfold dSorted eL
  simp only
  rw [if_pos c]
  congr 2
  have q := List.map_mergeSort (r := fun a b : Nat => decide (a ≤ b)) (s := PySem.W.dataLe false pyD) (f := eN) (l := xs) fun a _ b _ => by
    show decide (a ≤ b) = !PySem.W.dataLt (pyD (eN b)) (pyD (eN a))
    have := congrFun (congrFun (PySem.W.dataLe_int (fun n : Nat => (n : Int))) a) b
    rw [show pyD (eN b) = .int b by simp [pyD, eN, D.py], show pyD (eN a) = .int a by simp [pyD, eN, D.py]]
    have h2 : (!PySem.W.dataLt (.int (b : Int)) (.int (a : Int))) = decide ((a : Int) ≤ (b : Int)) := this
    rw [h2]
    exact decide_eq_decide.mpr (by omega)
  exact q.symm
theorem sorted_pairs (xs : List (Nat × Nat)) : dSorted [eL (eP eN eN) xs] = some (eL (eP eN eN) (xs.mergeSort fun a b => decide (a.1 < b.1 ∨ (a.1 = b.1 ∧ a.2 ≤ b.2)))) := by
  have py : ∀ p : Nat × Nat, pyD (eP eN eN p) = .tuple [.int p.1, .int p.2] := fun p => by simp [pyD, eP, eN, D.py, pyAll]
  have c : (∀ x ∈ xs.map (eP eN eN), (D.py x).isSome = true ∧ (pyD x).depth ≤ 40) ∧ PySem.W.AllAlike ((xs.map (eP eN eN)).map pyD) ∧ PySem.W.Sortable ((xs.map (eP eN eN)).map pyD) := by
    refine ⟨fun x hx => ?_, fun d hd d' hd' => ?_, .inl fun d hd => ?_⟩
    · obtain ⟨n, _, rfl⟩ := List.mem_map.mp hx
      rw [py]
      simp [eP, eN, D.py, pyAll, PyData.depth, PyData.depthAll]
    · obtain ⟨x, hx, rfl⟩ := List.mem_map.mp hd
      obtain ⟨y, hy, rfl⟩ := List.mem_map.mp hd'
      obtain ⟨n, _, rfl⟩ := List.mem_map.mp hx
      obtain ⟨m, _, rfl⟩ := List.mem_map.mp hy
      rw [py, py]
      simp [PySem.W.alike, PySem.W.alikeAll]
    · obtain ⟨x, hx, rfl⟩ := List.mem_map.mp hd
      obtain ⟨n, _, rfl⟩ := List.mem_map.mp hx
      exact ⟨_, _, py n⟩
  unfold dSorted eL
  simp only
  rw [if_pos c]
  congr 2
  have q := List.map_mergeSort (r := fun a b : Nat × Nat => decide (a.1 < b.1 ∨ (a.1 = b.1 ∧ a.2 ≤ b.2))) (s := PySem.W.dataLe false pyD) (f := eP eN eN) (l := xs) fun a _ b _ => by
    have h2 := congrFun (congrFun (PySem.W.dataLe_ii (fun p : Nat × Nat => (p.1 : Int)) (fun p : Nat × Nat => (p.2 : Int))) a) b
    show _ = !PySem.W.dataLt (pyD (eP eN eN b)) (pyD (eP eN eN a))
    rw [py, py]
    have h3 : (!PySem.W.dataLt (.tuple [.int (b.1 : Int), .int (b.2 : Int)]) (.tuple [.int (a.1 : Int), .int (a.2 : Int)])) = _ := h2
    rw [h3]
    exact decide_eq_decide.mpr (by omega)
  exact q.symm

/-! ### dicts by tuples of numbers -/
def keyN (l : List Nat) : List Key := l.map fun n : Nat => (.inl (n : Int) : Key)
theorem keyN_inj {a b : List Nat} : keyN a = keyN b ↔ a = b := by
  constructor
  · intro h
    have inj : ∀ x y : Nat, (.inl (x : Int) : Key) = .inl (y : Int) → x = y := fun x y e => by have := Sum.inl.inj e; omega
    exact (List.map_inj_right inj).mp h
  · intro h; rw [h]
theorem scKeys_N (l : List Nat) : scKeys (l.map eN) = some (keyN l) := by
  induction l with
  | nil => simp [scKeys, keyN]
  | cons a l ih => rw [List.map_cons, scKeys, ih]; simp [scKey, eN, keyN]
def eD {β : Type} (ev : β → D) (tab : List (List Nat × β)) : D := .dct true (tab.map fun p => (.t (keyN p.1), ev p.2))
section
variable {β : Type} {ev : β → D} {tab more : List (List Nat × β)}
theorem dKey_T (l : List Nat) : dKey (eT eN l) = some (.t (keyN l)) := by rw [eT, dKey, scKeys_N]; rfl
theorem look_D (l : List Nat) : dLook (eD ev tab) (eT eN l) = some ((tab.find? fun p => decide (p.1 = l)).map fun p => ev p.2) := by
  unfold eD dLook
  rw [dKey_T]
  simp only [lookD]
  congr 1
  induction tab with
  | nil => rfl
  | cons p tab ih =>
    rw [List.map_cons, List.find?_cons, List.find?_cons]
    by_cases c : p.1 = l
    · subst c; simp
    · have c' : ¬ (DKey.t (keyN p.1) = DKey.t (keyN l)) := fun z => c (keyN_inj.mp (DKey.t.inj z))
      rw [decide_eq_false c, decide_eq_false c']
      exact ih
theorem find_isSome (l : List Nat) : (tab.find? fun p => decide (p.1 = l)).isSome = decide (l ∈ tab.map (·.1)) := by
  induction tab with
  | nil => rfl
  | cons p tab ih =>
    rw [List.find?_cons]
    by_cases c : p.1 = l
    · subst c; simp
    · have c' : ¬ l = p.1 := fun z => c z.symm
      rw [decide_eq_false c, ih]
      simp [c']
theorem dIn_D (l : List Nat) : dIn (eT eN l) (eD ev tab) = some (.bl (decide (l ∈ tab.map (·.1)))) := by
  have e : dIn0 (eT eN l) (eD ev tab) = (dLook (eD ev tab) (eT eN l)).map (·.isSome) := rfl
  rw [dIn, e, look_D]
  show some (D.bl (Option.map _ _).isSome) = _
  rw [Option.isSome_map, find_isSome]
theorem dNotIn_D (l : List Nat) : dNotIn (eT eN l) (eD ev tab) = some (.bl (!decide (l ∈ tab.map (·.1)))) := by
  have e : dIn0 (eT eN l) (eD ev tab) = (dLook (eD ev tab) (eT eN l)).map (·.isSome) := rfl
  rw [dNotIn, e, look_D]
  show some (D.bl (!(Option.map _ _).isSome)) = _
  rw [Option.isSome_map, find_isSome]
theorem dIx_D (l : List Nat) {p : List Nat × β} (h : (tab.find? fun p => decide (p.1 = l)) = some p) : dIx (eD ev tab) (eT eN l) = some (ev p.2) := by
  have e : dIx (eD ev tab) (eT eN l) = match dLook (eD ev tab) (eT eN l) with | some (some d) => some d | _ => none := rfl
  rw [e, look_D, h]
  rfl
theorem put_new (l : List Nat) (v : β) (h : l ∉ tab.map (·.1)) : putD (tab.map fun p => (DKey.t (keyN p.1), ev p.2)) (.t (keyN l)) (ev v) = (tab ++ [(l, v)]).map fun p => (DKey.t (keyN p.1), ev p.2) := by
  unfold putD
  rw [if_neg, List.map_append]
  · rfl
  · rw [List.any_map, List.any_eq_true]
    rintro ⟨p, hp, e⟩
    have e := of_decide_eq_true e
    exact h (List.mem_map.mpr ⟨p, hp, keyN_inj.mp (DKey.t.inj e)⟩)
theorem merge_new (h : (tab.map (·.1) ++ more.map (·.1)).Nodup) : mergeD (tab.map fun p => (DKey.t (keyN p.1), ev p.2)) (more.map fun p => (DKey.t (keyN p.1), ev p.2)) = (tab ++ more).map fun p => (DKey.t (keyN p.1), ev p.2) := by
  induction more generalizing tab with
  | nil => rw [List.append_nil]; rfl
  | cons m more ih =>
    have hm : m.1 ∉ tab.map (·.1) := fun z => by
      rw [List.nodup_append] at h
      exact h.2.2 _ z _ List.mem_cons_self rfl
    show mergeD (putD _ (.t (keyN m.1)) (ev m.2)) _ = _
    rw [put_new m.1 m.2 hm, ih]
    · rw [List.append_assoc]; rfl
    · rw [List.map_append, List.append_assoc]; exact h
theorem dDict_T (h : (tab.map (·.1)).Nodup) : dDict true [eL (eP (eT eN) ev) tab] = some (eD ev tab) := by
  have e : pairsBy pairT (tab.map (eP (eT eN) ev)) = some (tab.map fun p => (keyN p.1, ev p.2)) := by
    clear h
    induction tab with
    | nil => rfl
    | cons p tab ih =>
      rw [List.map_cons, pairsBy, ih]
      have : pairT (eP (eT eN) ev p) = some (keyN p.1, ev p.2) := by
        show ((scKeys (p.1.map eN)).map fun k => (k, ev p.2)) = _
        rw [scKeys_N]; rfl
      rw [this]; rfl
  have e3 : dDict true [eL (eP (eT eN) ev) tab] = (pairsBy pairT (tab.map (eP (eT eN) ev))).map fun ps => D.dct true (mergeD [] (tagT ps)) := rfl
  rw [e3, e]
  have e2 : tagT (tab.map fun p => (keyN p.1, ev p.2)) = tab.map fun p => (DKey.t (keyN p.1), ev p.2) := by unfold tagT; rw [List.map_map]; rfl
  show some (D.dct true (mergeD [] (tagT _))) = _
  rw [e2]
  have := merge_new (ev := ev) (tab := []) (more := tab) (by simpa using h)
  rw [List.map_nil, List.nil_append] at this
  rw [this]
  rfl
def hashN (l : List Nat) : Int := hashI (l.map fun n : Nat => (n : Int))
theorem apart_N {ls : List (List Nat)} (h : (ls.map hashN).Nodup) : apartT (ls.map keyN) = true := by
  have e : (ls.map keyN).mapM intsOf = some (ls.map fun l => l.map fun n : Nat => (n : Int)) := by
    clear h
    have e1 : ∀ l : List Nat, intsOf (keyN l) = some (l.map fun n : Nat => (n : Int)) := by
      intro l
      induction l with
      | nil => rfl
      | cons a l ih => show (intsOf (keyN l)).map ((a : Int) :: ·) = _; rw [ih]; rfl
    induction ls with
    | nil => rfl
    | cons l ls ih => rw [List.map_cons, List.mapM_cons, e1, ih]; rfl
  unfold apartT
  rw [e]
  simp only
  rw [decide_eq_true_eq, List.map_map]
  exact h
theorem hUpd_T (h : (tab.map (·.1) ++ more.map (·.1)).Nodup) (hz : tab.length + more.length ≤ sizeLine) (ha : tab ≠ [] ∨ ((more.map (·.1)).map hashN).Nodup) : hUpd (eD ev tab) [eD ev more] = some (eD ev (tab ++ more), .non) := by
  have ek : ((more.map fun p => (DKey.t (keyN p.1), ev p.2)).filterMap fun p => match p.1 with | .t k => some k | _ => none) = (more.map (·.1)).map keyN := by
    clear h hz ha
    induction more with
    | nil => rfl
    | cons m more ih => rw [List.map_cons, List.filterMap_cons, ih]; rfl
  unfold eD hUpd
  simp only
  rw [if_pos, merge_new h]
  refine ⟨by rw [List.length_map, List.length_map]; exact hz, ?_⟩
  rcases ha with e | e
  · left
    intro z
    exact e (List.map_eq_nil_iff.mp z)
  · right
    have q := apart_N e
    rw [← ek] at q
    exact q
end
end L2.EV

/-! EV, part R: slices, chains of comparisons, sum, max, min, ranges as lists and tuples. -/
namespace L2.EV
open PySem PySem.Spec PyProof.Rows

/-! ### slices -/
def cutG {α : Type} (xs : List α) (lo hi : Option Int) : List α := (xs.drop (HT.sIx xs.length 0 lo)).take (HT.sIx xs.length xs.length hi - HT.sIx xs.length 0 lo)
theorem cutG_len {α : Type} (xs : List α) (lo hi : Option Int) : (cutG xs lo hi).length ≤ xs.length := by
  unfold cutG
  rw [List.length_take, List.length_drop]
  omega
theorem cutG_whole {α : Type} {xs : List α} {lo hi : Option Int} (h : HT.sIx xs.length 0 lo = 0 ∧ HT.sIx xs.length xs.length hi = xs.length) : cutG xs lo hi = xs := by
  unfold cutG
  rw [h.1, h.2]
  simp
theorem RepAll.cut {N : Addr → Prop} {sa : Addr} {H : Hp} {vs : List V} {ds : List D} (r : RepAll N sa H vs ds) (lo hi : Option Int) : RepAll N sa H (cutG vs lo hi) (cutG ds lo hi) := by
  unfold cutG
  rw [r.length]
  exact (r.drop _).take _
def TOv (t : TO) (f : Ev → M (Option Int)) : Prop := ∀ (W : Wd) (σ : St) (H : Hp) (ρ : Ev) (S : Src) (o : Option Int) (S' : Src) (Q : Option Int → Hp → Prop), WRel W H S → EnvRel W H σ ρ → f ρ S = some (o, S') → (∀ H', Keep W H H' → WRel W H' S' → Q o H') → t σ H Q
structure EO (X : Cx) (e : Option Expr) (f : Ev → M (Option Int)) : Prop where ex : ∃ t, PO X e t ∧ TOv t f
def oNone : Ev → M (Option Int) := fun _ => pure none
def oSome (f : Ev → M D) : Ev → M (Option Int) := fun ρ => f ρ >>= fun d => M.of (match d with
  | .int i => some (some i)
  | _ => none)
def dCut (d : D) (lo hi : Option Int) : Option D := match d with
  | .lst xs => some (.lst (cutG xs lo hi))
  | .tup xs => some (.tup (cutG xs lo hi))
  | _ => none
def eSl (f : Ev → M D) (g h : Ev → M (Option Int)) : Ev → M D := fun ρ => f ρ >>= fun d => g ρ >>= fun lo => h ρ >>= fun hi => M.of (dCut d lo hi)
section
variable {X : Cx} {e : Expr} {f : Ev → M D} {lo hi : Option Expr} {g h : Ev → M (Option Int)} {pos p2 : Pos}
theorem eo_none : EO X none oNone := ⟨_, po_none, fun W σ H ρ S o S' Q w er hf k => by
  obtain ⟨rfl, rfl⟩ := M.pure_eq hf
  exact k H (.refl _ _) w⟩
theorem eo_some (he : EI X e f) : EO X (some e) (oSome f) := by
  obtain ⟨t, p, q⟩ := he.ex
  refine ⟨_, po_some p, fun W σ H ρ S o S' Q w er hf k => ?_⟩
  obtain ⟨d, S1, e1, hf⟩ := M.bind_eq hf
  obtain ⟨e2, rfl⟩ := M.of_eq hf
  cases d with
  | int i =>
    cases e2
    exact q W σ H ρ S _ S1 _ w er e1 fun v H1 k1 w1 r1 => ⟨i, r1.int, k H1 k1 w1⟩
  | _ => cases e2
theorem ee_sl (he : EI X e f) (hl : EO X lo g) (hh : EO X hi h) : EE X (.Subscript e (.Slice lo hi none p2) pos) (eSl f g h) := by
  obtain ⟨t, p, q⟩ := he.ex
  obtain ⟨tl, pl, ql⟩ := hl.ex
  obtain ⟨th, ph, qh⟩ := hh.ex
  refine ⟨_, pe_slice (SlR.or sl_list sl_tupA) p pl ph, fun W σ H ρ S d S' Q w er hf k => ?_⟩
  obtain ⟨d0, S1, e1, hf⟩ := M.bind_eq hf
  obtain ⟨l, S2, e2, hf⟩ := M.bind_eq hf
  obtain ⟨u, S3, e3, hf⟩ := M.bind_eq hf
  obtain ⟨e4, rfl⟩ := M.of_eq hf
  refine q W σ H ρ S d0 S1 _ w er e1 fun v H1 k1 w1 r1 => ?_
  refine ql W σ H1 ρ S1 l S2 _ w1 (er.keep w k1) e2 fun H2 k2 w2 => ?_
  refine qh W σ H2 ρ S2 u S3 _ w2 ((er.keep w k1).keep w1 k2) e3 fun H3 k3 w3 => ?_
  have kk := (k1.trans k2).trans k3
  have r3 := (r1.keep w1 k2).keep w2 k3
  cases d0 with
  | lst xs =>
    cases e4
    obtain ⟨a, vs, rfl, hH, z, r, _⟩ := r3.lst
    exact .inl ⟨a, vs, rfl, .of hH, fun p hp => k _ _ (kk.trans (keep_laid hp)) (w3.laid hp) (rep_newL w3 (r.cut l u) (Nat.le_trans (cutG_len vs l u) z) hp)⟩
  | tup xs =>
    cases e4
    obtain ⟨a, vs, rfl, hH, z, r⟩ := r3.tup
    refine .inr ⟨a, vs, rfl, .of hH, fun hw => ?_, fun _ p hp => k _ _ (kk.trans (keep_laid hp)) (w3.laid hp) (rep_newT w3 (r.cut l u) (Nat.le_trans (cutG_len vs l u) z) hp)⟩
    have e5 : cutG xs l u = xs := cutG_whole (by rw [← r.length]; exact hw)
    rw [e5] at k
    exact k _ H3 kk w3 (.tup hH z r)
  | _ => cases e4
/-! xs[::-1], a list -/
def dRev : List D → Option D
  | [.lst xs] => some (.lst xs.reverse)
  | _ => none
def eRev (f : Ev → M D) : Ev → M D := fun ρ => f ρ >>= fun d => M.of (dRev [d])
theorem ee_rev (he : EI X e f) {k0 : Nat} {p1 p3 p4 : Pos} : EE X (.Subscript e (.Slice none none (some (.UnaryOp .USub (.Constant (.int 1) k0 p1) p2)) p3) p4) (eRev f) := by
  obtain ⟨t, p, q⟩ := he.ex
  refine ⟨_, pe_revL p, fun W σ H ρ S d S' Q w er hf k => ?_⟩
  obtain ⟨d0, S1, e1, hf⟩ := M.bind_eq hf
  obtain ⟨e4, rfl⟩ := M.of_eq hf
  refine q W σ H ρ S d0 S1 _ w er e1 fun v H1 k1 w1 r1 => ?_
  cases d0 with
  | lst xs =>
    cases e4
    obtain ⟨a, vs, rfl, hH, z, r, _⟩ := r1.lst
    exact ⟨a, vs, rfl, .of hH, fun p hp => k _ _ (k1.trans (keep_laid hp)) (w1.laid hp) (rep_newL w1 r.reverse (by rw [List.length_reverse]; exact z) hp)⟩
  | _ => cases e4
end

/-! ### chains -/
def eChain (h h' : D → D → Option D) (f g k : Ev → M D) : Ev → M D := fun ρ => f ρ >>= fun x => g ρ >>= fun y => M.of (h x y) >>= asB >>= fun b => if b = true then k ρ >>= fun z => M.of (h' y z) else pure (.bl false)
section
variable {X : Cx} {a b c : Expr} {f g k : Ev → M D} {op op' : CmpOp} {r r' : R2} {h h' : D → D → Option D} {pos : Pos}
theorem TEv.chain {ta tb tc : TE} (hv : OpV r h) (hv' : OpV r' h') (ha : TIv ta f) (hb : TIv tb g) (hc : TIv tc k) : TEv (tChain r r' ta tb tc) (eChain h h' f g k) := by
  intro W σ H ρ S d S' Q w er hf kk
  obtain ⟨x, S1, h1, hf⟩ := M.bind_eq hf
  obtain ⟨y, S2, h2, hf⟩ := M.bind_eq hf
  obtain ⟨b0, S3, h3, hf⟩ := M.bind_eq hf
  obtain ⟨z, S4, h4, h3⟩ := M.bind_eq h3
  obtain ⟨h5, rfl⟩ := M.of_eq h4
  obtain ⟨rfl, rfl⟩ := asB_eq h3
  refine ha W σ H ρ S x S1 _ w er h1 fun v H1 k1 w1 r1 => ?_
  refine hb W σ H1 ρ S1 y _ _ w1 (er.keep w k1) h2 fun u H2 k2 w2 r2 => ?_
  refine hv W H2 _ v u x y _ _ w2 (r1.keep w1 k2) r2 h5 fun w' H3 k3 w3 r3 => ?_
  have er3 := ((er.keep w k1).keep w1 k2).keep w2 k3
  cases r3
  refine ⟨b0, rfl, ?_⟩
  cases b0 with
  | true =>
    rw [if_pos rfl] at hf ⊢
    obtain ⟨z, S5, h6, hf⟩ := M.bind_eq hf
    obtain ⟨h7, rfl⟩ := M.of_eq hf
    refine hc W σ H3 ρ _ z _ _ w3 er3 h6 fun u2 H4 k4 w4 r4 => ?_
    exact hv' W H4 _ u u2 y z d Q w4 ((r2.keep w2 k3).keep w3 k4) r4 h7 fun v5 H5 k5 w5 r5 => kk v5 H5 ((((k1.trans k2).trans k3).trans k4).trans k5) w5 r5
  | false =>
    rw [if_neg Bool.false_ne_true] at hf ⊢
    obtain ⟨rfl, rfl⟩ := M.pure_eq hf
    exact kk _ H3 ((k1.trans k2).trans k3) w3 (.bl _)
theorem ee_chain (ho : OpR X (compareOp op) r) (hv : OpV r h) (ho' : OpR X (compareOp op') r') (hv' : OpV r' h') (ha : EI X a f) (hb : EI X b g) (hc : EI X c k) (hm : lastMarks [op, op'] [b, c] = false := by with_unfolding_all rfl) : EE X (.Compare a [op, op'] [b, c] pos) (eChain h h' f g k) := by
  obtain ⟨ta, p1, q1⟩ := ha.ex
  obtain ⟨tb, p2, q2⟩ := hb.ex
  obtain ⟨tc, p3, q3⟩ := hc.ex
  exact ⟨_, pe_chain ho ho' p1 p2 p3 hm, TEv.chain hv hv' q1 q2 q3⟩
theorem eb_chain (ho : OpR X (compareOp op) r) (hv : OpV r h) (ho' : OpR X (compareOp op') r') (hv' : OpV r' h') (ha : EI X a f) (hb : EI X b g) (hc : EI X c k) (hm : lastMarks [op, op'] [b, c] = false := by with_unfolding_all rfl) : EB X (.Compare a [op, op'] [b, c] pos) (bOf (eChain h h' f g k)) := by
  obtain ⟨ta, p1, q1⟩ := ha.ex
  obtain ⟨tb, p2, q2⟩ := hb.ex
  obtain ⟨tc, p3, q3⟩ := hc.ex
  exact ⟨_, pt_chain ho ho' p1 p2 p3 hm, TBv.of (TEv.chain hv hv' q1 q2 q3).i⟩
end

/-! ### sum, max, min of a list of ints -/
def intsD : List D → Option (List Int)
  | [] => some []
  | .int i :: ds => (intsD ds).map (i :: ·)
  | _ => none
theorem intsD_rep {N : Addr → Prop} {sa : Addr} {H : Hp} : ∀ {vs : List V} {ds : List D} {is : List Int}, RepAll N sa H vs ds → intsD ds = some is → vs = is.map V.int
  | _, _, _, .nil, h => by cases h; rfl
  | _, _, _, .cons (d := d) (ds := ds) r t, h => by
    cases d with
    | int i =>
      obtain ⟨js, h1, rfl⟩ := Option.map_eq_some_iff.mp (show (intsD ds).map (i :: ·) = _ from h)
      cases r
      rw [intsD_rep t h1]
      rfl
    | _ => cases h
def dSum : List D → Option D
  | [.lst xs] => (intsD xs).map fun is => .int is.sum
  | _ => none
def maxI : List Int → Option Int
  | [] => none
  | i :: is => some (is.foldl max i)
def minI : List Int → Option Int
  | [] => none
  | i :: is => some (is.foldl min i)
theorem foldl_max : ∀ (is : List Int) (i m : Int), (m = i ∨ m ∈ is) → (i ≤ m ∧ ∀ y ∈ is, y ≤ m) → is.foldl max i = m
  | [], i, m, h, _ => by rcases h with h | h; exact h.symm; cases h
  | j :: is, i, m, h, hm => by
    show is.foldl max (max i j) = m
    have hj := hm.2 j List.mem_cons_self
    refine foldl_max is (max i j) m ?_ ⟨Int.max_le.mpr ⟨hm.1, hj⟩, fun y hy => hm.2 y (List.mem_cons_of_mem _ hy)⟩
    rcases h with h | h
    · left; omega
    · rcases List.mem_cons.mp h with h | h
      · left; omega
      · exact .inr h
theorem foldl_min : ∀ (is : List Int) (i m : Int), (m = i ∨ m ∈ is) → (m ≤ i ∧ ∀ y ∈ is, m ≤ y) → is.foldl min i = m
  | [], i, m, h, _ => by rcases h with h | h; exact h.symm; cases h
  | j :: is, i, m, h, hm => by
    show is.foldl min (min i j) = m
    have hj := hm.2 j List.mem_cons_self
    refine foldl_min is (min i j) m ?_ ⟨Int.le_min.mpr ⟨hm.1, hj⟩, fun y hy => hm.2 y (List.mem_cons_of_mem _ hy)⟩
    rcases h with h | h
    · left; omega
    · rcases List.mem_cons.mp h with h | h
      · left; omega
      · exact .inr h
def dMaxL : List D → Option D
  | [.lst xs] => ((intsD xs).bind maxI).map .int
  | _ => none
def dMinL : List D → Option D
  | [.lst xs] => ((intsD xs).bind minI).map .int
  | _ => none
theorem cv_sum {K : PySem.W.Frag} : CallV (rSum K) dSum := by
  intro W H S vs ds d Q w a h k
  unfold dSum at h
  split at h
  · obtain ⟨is, e, rfl⟩ := Option.map_eq_some_iff.mp h
    obtain ⟨v, rfl, r⟩ := a.one
    obtain ⟨p, us, rfl, hH, z, r, _⟩ := r.lst
    rw [intsD_rep r e] at hH
    exact ⟨p, is, rfl, .of hH, k _ H (.refl _ _) w (.int _)⟩
  · cases h
theorem cv_maxL {K : PySem.W.Frag} : CallV (rMax K) dMaxL := by
  intro W H S vs ds d Q w a h k
  unfold dMaxL at h
  split at h
  · obtain ⟨m0, e, rfl⟩ := Option.map_eq_some_iff.mp h
    obtain ⟨is, e1, e2⟩ := Option.bind_eq_some_iff.mp e
    obtain ⟨v, rfl, r⟩ := a.one
    obtain ⟨p, us, rfl, hH, z, r, _⟩ := r.lst
    rw [intsD_rep r e1] at hH
    cases is with
    | nil => cases e2
    | cons i is =>
      cases e2
      refine ⟨p, i :: is, rfl, .of hH, Nat.succ_pos _, fun m hm hy => ?_⟩
      rw [foldl_max is i m (List.mem_cons.mp hm) ⟨hy i List.mem_cons_self, fun y h => hy y (List.mem_cons_of_mem _ h)⟩] at k
      exact k _ H (.refl _ _) w (.int _)
  · cases h
theorem cv_minL {K : PySem.W.Frag} : CallV (rMin K) dMinL := by
  intro W H S vs ds d Q w a h k
  unfold dMinL at h
  split at h
  · obtain ⟨m0, e, rfl⟩ := Option.map_eq_some_iff.mp h
    obtain ⟨is, e1, e2⟩ := Option.bind_eq_some_iff.mp e
    obtain ⟨v, rfl, r⟩ := a.one
    obtain ⟨p, us, rfl, hH, z, r, _⟩ := r.lst
    rw [intsD_rep r e1] at hH
    cases is with
    | nil => cases e2
    | cons i is =>
      cases e2
      refine ⟨p, i :: is, rfl, .of hH, Nat.succ_pos _, fun m hm hy => ?_⟩
      rw [foldl_min is i m (List.mem_cons.mp hm) ⟨hy i List.mem_cons_self, fun y h => hy y (List.mem_cons_of_mem _ h)⟩] at k
      exact k _ H (.refl _ _) w (.int _)
  · cases h

/-! ### list(range(..)), tuple(range(..)) -/
def rgD (ds : List D) : Option (List D) := match ds with
  | [.int j] => if okR j && decide (j.toNat ≤ sizeLine) then some (rangeD 0 j.toNat) else none
  | [.int i, .int j] => if okR i && okR j && decide ((j - i).toNat ≤ sizeLine) then some (rangeD i (j - i).toNat) else none
  | _ => none
def eRgL (f : Ev → M (List D)) : Ev → M D := fun ρ => f ρ >>= fun ds => M.of ((rgD ds).map .lst)
def eRgT (f : Ev → M (List D)) : Ev → M D := fun ρ => f ρ >>= fun ds => M.of ((rgD ds).map .tup)
theorem rg_rep {N : Addr → Prop} {sa : Addr} {H : Hp} (i : Int) (n : Nat) : RepAll N sa H ((List.range n).map fun k => V.int (i + (k : Nat))) (rangeD i n) := by
  unfold rangeD
  generalize List.range n = l
  induction l with
  | nil => exact .nil
  | cons a l ih => exact .cons (.int _) ih
section
variable {X : Cx} {a b : Expr} {f g : Ev → M D} {p pos p2 pos2 : Pos}
theorem en_rgL1 (hm : X.mg "range" = none) (hml : X.mg "list" = none) (ha : EI X a f) (hg : Gl X "range" := by rfl) (hgl : Gl X "list" := by rfl) (hc : X.calm = true := by rfl) (na : starEach [a] X.env = (false, eval a X.env) :: starEach [] X.env := by rfl)
    (nb : starEach [.Call (.Name "range" p) [a] [] pos] X.env = (false, eval (.Call (.Name "range" p) [a] [] pos) X.env) :: starEach [] X.env := by rfl) : EN X (.Call (.Name "list" p2) [.Call (.Name "range" p) [a] [] pos] [] pos2) (eRgL (aCons f aNil)) := by
  obtain ⟨t, p1, q⟩ := ha.ex
  refine ⟨_, pe_listRg hc hgl hml (prg_1 hg hm p1 na) nb, fun W σ H ρ S d S' Q w er hf k => ?_⟩
  obtain ⟨ds, S1, e1, hf⟩ := M.bind_eq hf
  obtain ⟨x, S2, e2, e1⟩ := M.bind_eq e1
  obtain ⟨e3, rfl⟩ := M.pure_eq (show (pure [x] : M (List D)) S2 = some (ds, S1) from e1)
  subst e3
  obtain ⟨e4, rfl⟩ := M.of_eq hf
  obtain ⟨es, e5, rfl⟩ := Option.map_eq_some_iff.mp e4
  refine q W σ H ρ S x _ _ w er e2 fun v H1 k1 w1 r1 => ?_
  unfold rgD at e5
  split at e5
  · rename_i j e0
    cases e0
    split at e5
    · rename_i c
      cases e5
      rw [Bool.and_eq_true, decide_eq_true_eq] at c
      have c1 := of_decide_eq_true c.1
      refine ⟨j, r1.int, ⟨by decide, by decide, c1.1, c1.2, by rw [Int.sub_zero]; exact c.2⟩, fun q hq => ?_⟩
      have rr := rg_rep (N := W.no) (sa := W.sa) (H := H1) 0 (j - 0).toNat
      rw [Int.sub_zero] at rr
      have z : (rgV 0 j).length ≤ sizeLine := by rw [rgV_length, Int.sub_zero]; exact c.2
      have t := top_lst w1 hq (show RepAll W.no W.sa H1 (rgV 0 j) (rangeD 0 j.toNat) by unfold rgV; rw [Int.sub_zero]; exact rr) z
      exact k q _ (keep_none w1 k1 hq) (k1.trans t.1) t.2.1 t.2.2
    · cases e5
  · rename_i e0; cases e0
  · cases e5
end
end L2.EV

/-! EV, part S: comprehensions over a dict's keys: the dict is locked meanwhile. -/
namespace L2.EV
open PySem PySem.Spec PyProof.Rows

/-! ### keys as data -/
def isDct : HO → Bool
  | .dK _ => true
  | .dT _ => true
  | _ => false
def scD : Key → D
  | .inl i => .int i
  | .inr x => .str x
def keyOf : DKey → D
  | .k x => scD x
  | .t ks => .tup (ks.map scD)
def keyFit : DKey → Bool
  | .k _ => true
  | .t ks => decide (ks.length ≤ sizeLine)
/-- a list, or a tuple known as it lies -/
def isLP : HO → Bool
  | .lst _ => true
  | .frz _ (.tup _) => true
  | _ => false
def keysD : D → Option (List D)
  | .dct _ kds => if kds.all (fun p => keyFit p.1) = true then some (kds.map fun p => keyOf p.1) else none
  | _ => none
section
variable {N N' : Addr → Prop} {sa : Addr} {H H' : Hp}
theorem scD_rep (k : Key) : Rep N sa H (kV k) (scD k) := by
  cases k with
  | inl i => exact .int i
  | inr x => exact .str x
theorem scDs_rep (ks : List Key) : RepAll N sa H (ks.map kV) (ks.map scD) := by
  induction ks with
  | nil => exact .nil
  | cons k ks ih => exact .cons (scD_rep k) ih
theorem RepK.key : ∀ {kvs : List (Key × V)} {kds : List (DKey × D)} {i : Nat} {k : Key} {v : V}, RepK N sa H kvs kds → kvs[i]? = some (k, v) → ∃ d, kds[i]? = some (.k k, d)
  | _, _, _, _, _, .nil, h => by simp at h
  | _, _, 0, _, _, .cons (d := d) _ _, h => by simp at h; obtain ⟨rfl, rfl⟩ := h; exact ⟨d, rfl⟩
  | _, _, i + 1, _, _, .cons _ t, h => by simpa using RepK.key (i := i) t (by simpa using h)
theorem RepT.key : ∀ {kvs : List (List Key × V)} {kds : List (DKey × D)} {i : Nat} {k : List Key} {v : V}, RepT N sa H kvs kds → kvs[i]? = some (k, v) → ∃ d, kds[i]? = some (.t k, d)
  | _, _, _, _, _, .nil, h => by simp at h
  | _, _, 0, _, _, .cons (d := d) _ _, h => by simp at h; obtain ⟨rfl, rfl⟩ := h; exact ⟨d, rfl⟩
  | _, _, i + 1, _, _, .cons _ t, h => by simpa using RepT.key (i := i) t (by simpa using h)
mutual
theorem Rep.impR (ht : ∀ a vs, H a = some (.tup vs) → H' a = some (.tup vs)) (hl : ∀ a o, isLP o = true → ¬ N a → H a = some o → H' a = some o) (hd : ∀ a u, isDct u = true → ¬ N a → Rd H a u → Rd H' a u) : ∀ {v : V} {d : D}, Rep N sa H v d → Rep N sa H' v d
  | _, _, .non => .non
  | _, _, .bl b => .bl b
  | _, _, .int i => .int i
  | _, _, .str x => .str x
  | _, _, .src => .src
  | _, _, .tup h z r => .tup (ht _ _ h) z (RepAll.impR ht hl hd r)
  | _, _, .lst h n z r => .lst (hl _ _ rfl n h) n z (RepAll.impR ht hl hd r)
  | _, _, .ptp h h0 n z r => .ptp (hl _ _ rfl n h) h0 n z (RepAll.impR ht hl hd r)
  | _, _, .dK h n z r => .dK (hd _ _ rfl n h) n z (RepK.impR ht hl hd r)
  | _, _, .dT h n z r => .dT (hd _ _ rfl n h) n z (RepT.impR ht hl hd r)
theorem RepAll.impR (ht : ∀ a vs, H a = some (.tup vs) → H' a = some (.tup vs)) (hl : ∀ a o, isLP o = true → ¬ N a → H a = some o → H' a = some o) (hd : ∀ a u, isDct u = true → ¬ N a → Rd H a u → Rd H' a u) : ∀ {vs : List V} {ds : List D}, RepAll N sa H vs ds → RepAll N sa H' vs ds
  | _, _, .nil => .nil
  | _, _, .cons r t => .cons (Rep.impR ht hl hd r) (RepAll.impR ht hl hd t)
theorem RepK.impR (ht : ∀ a vs, H a = some (.tup vs) → H' a = some (.tup vs)) (hl : ∀ a o, isLP o = true → ¬ N a → H a = some o → H' a = some o) (hd : ∀ a u, isDct u = true → ¬ N a → Rd H a u → Rd H' a u) : ∀ {kvs : List (Key × V)} {kds : List (DKey × D)}, RepK N sa H kvs kds → RepK N sa H' kvs kds
  | _, _, .nil => .nil
  | _, _, .cons r t => .cons (Rep.impR ht hl hd r) (RepK.impR ht hl hd t)
theorem RepT.impR (ht : ∀ a vs, H a = some (.tup vs) → H' a = some (.tup vs)) (hl : ∀ a o, isLP o = true → ¬ N a → H a = some o → H' a = some o) (hd : ∀ a u, isDct u = true → ¬ N a → Rd H a u → Rd H' a u) : ∀ {kvs : List (List Key × V)} {kds : List (DKey × D)}, RepT N sa H kvs kds → RepT N sa H' kvs kds
  | _, _, .nil => .nil
  | _, _, .cons r t => .cons (Rep.impR ht hl hd r) (RepT.impR ht hl hd t)
end
end

/-! ### locked -/
def Wd.lock (W : Wd) (a : Addr) : Wd := { W with C := fun b => W.C b ∨ (b = a ∧ W.L a), L := fun b => W.L b ∧ b ≠ a }
theorem lock_no (W : Wd) (a : Addr) : (W.lock a).no = W.no := by
  funext b
  apply propext
  constructor
  · rintro ((h | ⟨rfl, h⟩) | h | h | h)
    · exact .inl h
    · exact .inr (.inl h)
    · exact .inr (.inl h.1)
    · exact .inr (.inr (.inl h))
    · exact .inr (.inr (.inr h))
  · rintro (h | h | h | h)
    · exact .inl (.inl h)
    · by_cases e : b = a
      · subst e; exact .inl (.inr ⟨rfl, h⟩)
      · exact .inr (.inl ⟨h, e⟩)
    · exact .inr (.inr (.inl h))
    · exact .inr (.inr (.inr h))
/-- H' is H but that a's dict is locked, or let go -/
structure Swap (H H' : Hp) (a : Addr) (u : HO) : Prop where
  out : ∀ b, b ≠ a → H' b = H b
  rd : ∀ x, isDct x = true → Rd H a x → x = u
  nt : ∀ vs, H a ≠ some (.tup vs)
  nl : ∀ o, isLP o = true → H a ≠ some o
  rd' : Rd H' a u
  dct : isDct u = true
section
variable {N : Addr → Prop} {sa a : Addr} {u : HO} {W : Wd} {H H' : Hp} {S : Src} {v : V} {d : D}
theorem Swap.tups (s : Swap H H' a u) : ∀ b vs, H b = some (.tup vs) → H' b = some (.tup vs) := fun b vs h => by
  by_cases e : b = a
  · subst e
    exact absurd h (s.nt vs)
  · rw [s.out b e]; exact h
theorem Swap.lsts (s : Swap H H' a u) : ∀ b o, isLP o = true → H b = some o → H' b = some o := fun b vs ho h => by
  by_cases e : b = a
  · subst e
    exact absurd h (s.nl vs ho)
  · rw [s.out b e]; exact h
theorem Swap.rds (s : Swap H H' a u) : ∀ b x, isDct x = true → Rd H b x → Rd H' b x := fun b x hx h => by
  by_cases e : b = a
  · subst e
    rw [s.rd x hx h]; exact s.rd'
  · unfold Rd at h ⊢
    rw [s.out b e]; exact h
theorem Rep.swap (s : Swap H H' a u) (r : Rep N sa H v d) : Rep N sa H' v d := r.impR s.tups (fun b o ho _ h => s.lsts b o ho h) fun b x hx _ h => s.rds b x hx h
theorem RepAll.swap (s : Swap H H' a u) {vs : List V} {ds : List D} (r : RepAll N sa H vs ds) : RepAll N sa H' vs ds := r.impR s.tups (fun b o ho _ h => s.lsts b o ho h) fun b x hx _ h => s.rds b x hx h
theorem RepK.swap (s : Swap H H' a u) {vs : List (Key × V)} {ds : List (DKey × D)} (r : RepK N sa H vs ds) : RepK N sa H' vs ds := r.impR s.tups (fun b o ho _ h => s.lsts b o ho h) fun b x hx _ h => s.rds b x hx h
theorem RepT.swap (s : Swap H H' a u) {vs : List (List Key × V)} {ds : List (DKey × D)} (r : RepT N sa H vs ds) : RepT N sa H' vs ds := r.impR s.tups (fun b o ho _ h => s.lsts b o ho h) fun b x hx _ h => s.rds b x hx h
theorem Top.swap {W' : Wd} (s : Swap H H' a u) (hn : W'.no = W.no) (hs : W'.sa = W.sa) {b : Addr} (t : Top W H b d) : Top W' H' b d := by
  cases d with
  | lst ds => obtain ⟨vs, h, z, r⟩ := t; exact ⟨vs, s.lsts b _ rfl h, z, by rw [hn, hs]; exact r.swap s⟩
  | dct c kds =>
    cases c with
    | false => obtain ⟨vs, h, z, r⟩ := t; exact ⟨vs, s.rds b _ rfl h, z, by rw [hn, hs]; exact r.swap s⟩
    | true => obtain ⟨vs, h, z, r⟩ := t; exact ⟨vs, s.rds b _ rfl h, z, by rw [hn, hs]; exact r.swap s⟩
  | _ => exact t.elim
theorem swap_lock (h : H a = some u) (hd : isDct u = true) (od : Obj) : Swap H (upd H a (.frz od u)) a u :=
  ⟨fun b n => upd_ne n, (by
    intro x hx r
    rcases r with r | ⟨o, r⟩
    · rw [h] at r; exact (Option.some.inj r).symm
    · rw [h] at r; obtain rfl := Option.some.inj r; cases hd), (by
    intro vs e
    rw [h] at e; obtain rfl := Option.some.inj e; cases hd), (by
    intro o ho e
    rw [h] at e; obtain rfl := Option.some.inj e; cases u <;> first | cases hd; done | cases ho; done), .inr ⟨od, upd_same⟩, hd⟩
theorem swap_open {od : Obj} (h : H a = some (.frz od u)) (hd : isDct u = true) : Swap H (upd H a u) a u :=
  ⟨fun b n => upd_ne n, (by
    intro x hx r
    rcases r with r | ⟨o, r⟩
    · rw [h] at r; obtain rfl := Option.some.inj r; cases hx
    · rw [h] at r; injection r with r; injection r with _ r; exact r.symm), (by
    intro vs e
    rw [h] at e; cases e), (by
    intro o ho e
    rw [h] at e; obtain rfl := Option.some.inj e; cases u <;> first | cases hd; done | cases ho; done), .inl upd_same, hd⟩
theorem WRel.lock (w : WRel W H S) (h : H a = some u) (hd : isDct u = true) (na : a ≠ W.sa ∧ a ≠ W.ca) (od : Obj) : WRel (W.lock a) (upd H a (.frz od u)) S where
  hs := by show upd H a _ W.sa = _; rw [upd_ne (fun e => na.1 e.symm)]; exact w.hs
  hc := by show upd H a _ W.ca = _; rw [upd_ne (fun e => na.2 e.symm)]; exact w.hc
  mu := fun b hb => by
    by_cases e : b = a
    · subst e; rw [upd_same]; trivial
    · rw [upd_ne e]
      rcases hb with (hb | ⟨hb, _⟩) | hb
      · exact w.mu b (.inl hb)
      · exact absurd hb e
      · exact w.mu b (.inr hb.1)
  ne := fun b hb => by
    rcases hb with (hb | ⟨rfl, hb⟩) | hb
    · exact w.ne b (.inl hb)
    · exact na
    · exact w.ne b (.inr hb.1)
  ap := fun b hb hc => by
    rcases hc with hc | ⟨hc, _⟩
    · exact w.ap b hb.1 hc
    · exact hb.2 hc
  ml := fun b hb => by
    rw [upd_ne hb.2]; exact w.ml b hb.1
theorem isDct_mut (hd : isDct u = true) : Mut (some u) := by
  cases u <;> first | trivial | cases hd
theorem WRel.unlock {od : Obj} (w : WRel (W.lock a) H S) (h : H a = some (.frz od u)) (hd : isDct u = true) (na : a ≠ W.sa ∧ a ≠ W.ca) (hp : W.L a → ¬ W.C a) : WRel W (upd H a u) S where
  hs := by rw [upd_ne (fun e => na.1 e.symm)]; exact w.hs
  hc := by rw [upd_ne (fun e => na.2 e.symm)]; exact w.hc
  mu := fun b hb => by
    by_cases e : b = a
    · subst e; rw [upd_same]; exact Mut.f (isDct_mut hd)
    · rw [upd_ne e]
      exact w.mu b (hb.elim (fun z => .inl (.inl z)) fun z => .inr ⟨z, e⟩)
  ne := fun b hb => by
    by_cases e : b = a
    · subst e; exact na
    · exact w.ne b (hb.elim (fun z => .inl (.inl z)) fun z => .inr ⟨z, e⟩)
  ap := fun b hb hc => by
    by_cases e : b = a
    · subst e; exact hp hb hc
    · exact w.ap b ⟨hb, e⟩ (.inl hc)
  ml := fun b hb => by
    by_cases e : b = a
    · subst e; rw [upd_same]; exact isDct_mut hd
    · rw [upd_ne e]; exact w.ml b ⟨hb, e⟩
theorem lock_add {p : Addr} (n : a ≠ p) : (W.add p).lock a = (W.lock a).add p := by
  unfold Wd.lock Wd.add
  congr 1
  · funext b
    apply propext
    constructor
    · rintro (h | ⟨rfl, h | rfl⟩)
      · exact .inl h
      · exact .inr ⟨rfl, h⟩
      · exact absurd rfl n
    · rintro (h | ⟨rfl, h⟩)
      · exact .inl h
      · exact .inr ⟨rfl, .inl h⟩
  · funext b
    apply propext
    constructor
    · rintro ⟨h | rfl, h2⟩
      · exact .inl ⟨h, h2⟩
      · exact .inr rfl
    · rintro (h | rfl)
      · exact ⟨.inl h.1, h.2⟩
      · exact ⟨.inr rfl, fun e => n e.symm⟩
theorem CellRel.lock {c : Cell} (s : Swap H H' a u) (r : CellRel W H v c) (ho : ∀ d b, c = .o d → v = .ref b → W.L b → b ≠ a) : CellRel (W.lock a) H' v c := by
  cases c with
  | s d => exact (by rw [lock_no]; exact Rep.swap s r : Rep (W.lock a).no (W.lock a).sa H' v d)
  | b d =>
    rcases r with r | ⟨b, e, h1, h2, l, t⟩
    · exact .inl (by rw [lock_no]; exact Rep.swap s r : Rep (W.lock a).no (W.lock a).sa H' v d)
    · exact .inr ⟨b, e, h1, h2, fun z => l z.1, t.swap s (lock_no W a) rfl⟩
  | o d =>
    obtain ⟨b, e, l, t⟩ := r
    exact ⟨b, e, ⟨l, ho d b rfl e l⟩, t.swap s (lock_no W a) rfl⟩
def lockE (i : Nat) (ρ : Ev) : Ev := match ρ[i]? with
  | some (some (.o d)) => ρ.set i (some (.b d))
  | _ => ρ
theorem EnvRel.lock {σ : St} {ρ : Ev} {i : Nat} {c : Cell} (e : EnvRel W H σ ρ) (w : WRel W H S) (hv : σ[i]? = some (some (.ref a))) (hc : ρ[i]? = some (some c)) (s : Swap H H' a u) (na : a ≠ W.sa ∧ a ≠ W.ca) (own : W.L a → ∃ d, c = .o d) : EnvRel (W.lock a) H' σ (lockE i ρ) := by
  obtain ⟨v, hv', hr⟩ := e.get i c hc
  rw [hv] at hv'
  obtain rfl := Option.some.inj (Option.some.inj hv')
  have other : ∀ (j : Nat) (c' : Cell), j ≠ i → ρ[j]? = some (some c') → ∃ v, σ[j]? = some (some v) ∧ CellRel (W.lock a) H' v c' := fun j c' hj h => by
    obtain ⟨v, h1, h2⟩ := e.get j c' h
    refine ⟨v, h1, h2.lock s fun d b ec ev l ea => ?_⟩
    subst ec ev ea
    obtain ⟨d', rfl⟩ := own l
    exact hj (e.sep j i _ d d' h hc h1 hv)
  have ilt : i < ρ.length := by
    rcases Nat.lt_or_ge i ρ.length with q | q
    · exact q
    · rw [List.getElem?_eq_none q] at hc; cases hc
  cases c with
  | o d =>
    have el : lockE i ρ = ρ.set i (some (.b d)) := by unfold lockE; rw [hc]
    rw [el]
    refine ⟨by rw [List.length_set]; exact e.len, fun j c' h => ?_, fun j j' b d1 d2 h1 h2 s1 s2 => ?_⟩
    · rw [List.getElem?_set] at h
      by_cases q : i = j
      · subst q
        rw [if_pos rfl, if_pos ilt] at h
        obtain rfl := Option.some.inj (Option.some.inj h)
        obtain ⟨b, eb, l, t⟩ := hr
        cases eb
        exact ⟨_, hv, .inr ⟨_, rfl, na.1, na.2, fun z => z.2 rfl, t.swap s (lock_no W a) rfl⟩⟩
      · rw [if_neg q] at h
        exact other j c' (fun e => q e.symm) h
    · rw [List.getElem?_set] at h1 h2
      by_cases q : i = j
      · subst q; rw [if_pos rfl, if_pos ilt] at h1; cases h1
      · by_cases q' : i = j'
        · subst q'; rw [if_pos rfl, if_pos ilt] at h2; cases h2
        · rw [if_neg q] at h1
          rw [if_neg q'] at h2
          exact e.sep j j' b d1 d2 h1 h2 s1 s2
  | s d =>
    have el : lockE i ρ = ρ := by unfold lockE; rw [hc]
    rw [el]
    refine ⟨e.len, fun j c' h => ?_, e.sep⟩
    by_cases q : j = i
    · subst q
      rw [hc] at h
      obtain rfl := Option.some.inj (Option.some.inj h)
      exact ⟨_, hv, hr.lock s fun _ _ z => nomatch z⟩
    · exact other j c' q h
  | b d =>
    have el : lockE i ρ = ρ := by unfold lockE; rw [hc]
    rw [el]
    refine ⟨e.len, fun j c' h => ?_, e.sep⟩
    by_cases q : j = i
    · subst q
      rw [hc] at h
      obtain rfl := Option.some.inj (Option.some.inj h)
      exact ⟨_, hv, hr.lock s fun _ _ z => nomatch z⟩
    · exact other j c' q h
end

/-! ### the walk -/
theorem PE.or {X : Cx} {e : Expr} {t1 t2 : TE} (h1 : PE X e t1) (h2 : PE X e t2) : PE X e (fun σ H Q => t1 σ H Q ∨ t2 σ H Q) :=
  ⟨fun pins s σ H Q I r => r.elim (h1.run pins s σ H Q I) (h2.run pins s σ H Q I)⟩
section
variable {R : Wd → Hp → Prop} {a : Addr} {od : Obj}
theorem yields_keys {kvs : List (Key × V)} {kds : List (DKey × D)} {N : Addr → Prop} {sa : Addr} {H0 : Hp} (h : ∀ W2 H2 S2, R W2 H2 → WRel W2 H2 S2 → H2 a = some (.frz od (.dK kvs))) (r : RepK N sa H0 kvs kds) : Yields R (Itk a od kvs) (kds.map fun p => keyOf p.1) where
  go := fun i W H S hi hR w => ⟨h W H S hR w, by rw [r.length]; simpa using hi⟩
  stop := fun W H S hR w => ⟨h W H S hR w, by rw [r.length]; simp⟩
  yld := fun i d W H S x H' hd hR w y => by
    obtain ⟨rfl, k, v, e, rfl⟩ := y
    obtain ⟨d', e'⟩ := r.key e
    rw [List.getElem?_map, e'] at hd
    obtain rfl := Option.some.inj hd
    exact ⟨.refl _ _, w, scD_rep k⟩
theorem yields_keysT {kvs : List (List Key × V)} {kds : List (DKey × D)} {N : Addr → Prop} {sa : Addr} {H0 : Hp} (h : ∀ W2 H2 S2, R W2 H2 → WRel W2 H2 S2 → H2 a = some (.frz od (.dT kvs))) (r : RepT N sa H0 kvs kds) (hf : kds.all (fun p => keyFit p.1) = true) : Yields R (Itkt a od kvs) (kds.map fun p => keyOf p.1) where
  go := fun i W H S hi hR w => ⟨h W H S hR w, by rw [r.length]; simpa using hi⟩
  stop := fun W H S hR w => ⟨h W H S hR w, by rw [r.length]; simp⟩
  yld := fun i d W H S x H' hd hR w y => by
    obtain ⟨rfl, k, v, q, e, rfl, hq⟩ := y
    obtain ⟨d', e'⟩ := r.key e
    have hm := List.all_eq_true.mp hf _ (List.mem_of_getElem? e')
    rw [List.getElem?_map, e'] at hd
    obtain rfl := Option.some.inj hd
    refine ⟨.refl _ _, w, .tup hq ?_ (scDs_rep k)⟩
    have : k.length ≤ sizeLine := by simpa [keyFit] using hm
    simpa using this
end
section
variable {X : Cx} {elt tg iter : Expr} {ifs : List Expr} {scope : Scope} {own : List (Str × Nat)} {pos : Pos} {g : D → Ev → Option Ev} {ft : Ev → M Bool} {fe : Ev → M D} {tgt : TG} {tt : TT} {te : TE} {vs : List Nat}
theorem lc_at (hg : TGv vs tgt g) (ht : TBv tt ft) (he : TEv te fe) {W : Wd} {H1 : Hp} {S1 S2 : Src} {σ : St} {ρ : Ev} {J : It} {ds ys : List D} {Q : VK} (w1 : WRel W H1 S1) (er1 : EnvRel W H1 σ ρ) (hz : ds.length ≤ sizeLine)
    (y : Yields (fun W2 H2 => KeepC W H1 W2 H2) J ds) (h2 : compL g ft fe ds (wipeE ρ vs) S1 = some (ys, S2)) (k : ∀ p H', H1 p = none → Keep W H1 H' → WRel (W.add p) H' S2 → Top (W.add p) H' p (.lst ys) → Q (.ref p) H') : tLc (fun _ H R => R J H) tgt tt te vs σ H1 Q := by
  intro D hD
  have wD : WRel (W.add D) (upd H1 D (.lst [])) S1 := w1.own hD trivial
  have erD : EnvRel (W.add D) (upd H1 D (.lst [])) σ ρ := er1.step w1 (KeepC.add (keep_laid hD) hD)
  refine lc_it (Qd := fun H => Q (.ref D) H) y.walk (fun i H2 => ∃ (S3 : Src) (us : List V) (zs rest : List EV.D), KeepC W H1 (W.add D) H2 ∧ WRel (W.add D) H2 S3 ∧ H2 D = some (.lst us) ∧ us.length ≤ i ∧ RepAll (W.add D).no (W.add D).sa H2 us zs ∧
    compL g ft fe (ds.drop i) (wipeE ρ vs) S3 = some (rest, S2) ∧ zs ++ rest = ys) ⟨S1, [], [], ys, .add (keep_laid hD) hD, wD, upd_same, Nat.le_refl _, .nil, h2, rfl⟩ ?_ ?_ ?_
  · rintro i H2 hi ⟨S3, us, zs, rest, kc, w2, _⟩
    exact ⟨W.add D, S3, kc, w2⟩
  · rintro i x H2 H3 hi ⟨S3, us, zs, rest, kc, w2, hH, hl, ra, hr, hy⟩ hY
    have hdd : ds.drop i = ds[i] :: ds.drop (i + 1) := List.drop_eq_getElem_cons hi
    rw [hdd] at hr
    obtain ⟨ρ1, S4, e1, hr⟩ := M.bind_eq hr
    obtain ⟨e0, rfl⟩ := M.of_eq e1
    obtain ⟨b, S5, e2, hr⟩ := M.bind_eq hr
    obtain ⟨k3, w3, r3⟩ := hY ds[i] (W.add D) S3 (List.getElem?_eq_getElem hi) kc w2
    have er2 : EnvRel (W.add D) H3 (wipe σ vs) (wipeE ρ vs) := (er1.step w1 kc).wipe vs |>.keep w2 k3
    have nD := w2.ne D (.inr (.inr rfl))
    have kc3 : KeepC W H1 (W.add D) H3 := kc.trans w2 w1 (.of k3)
    refine hg (W.add D) H3 S3 x ds[i] (wipe σ vs) (wipeE ρ vs) ρ1 _ w3 er2 r3 e0 fun σ2 er3 hw => ⟨hw.trans (wipe_wipe σ vs), ?_⟩
    refine ht (W.add D) σ2 H3 ρ1 S3 b S5 _ w3 er3 e2 fun H4 k4 w4 => ?_
    have kc4 : KeepC W H1 (W.add D) H4 := kc3.trans w3 w1 (.of k4)
    cases b with
    | false =>
      rw [if_neg Bool.false_ne_true] at hr ⊢
      exact ⟨S5, us, zs, rest, kc4, w4, k4 D _ nD.1 nD.2 (k3 D _ nD.1 nD.2 hH), by omega, (ra.keep w2 k3).keep w3 k4, hr, hy⟩
    | true =>
      rw [if_pos rfl] at hr ⊢
      obtain ⟨z, S6, e3, hr⟩ := M.bind_eq hr
      obtain ⟨rest', S7, e4, hr⟩ := M.bind_eq hr
      obtain ⟨rfl, rfl⟩ := M.pure_eq hr
      refine he (W.add D) σ2 H4 ρ1 S5 z S6 _ w4 (er3.keep w3 k4) e3 fun v H5 k5 w5 r5 => ?_
      have hD5 : H5 D = some (.lst us) := k5 D _ nD.1 nD.2 (k4 D _ nD.1 nD.2 (k3 D _ nD.1 nD.2 hH))
      have kc5 : KeepC W H1 (W.add D) H5 := kc4.trans w4 w1 (.of k5)
      have ra5 := ((ra.keep w2 k3).keep w3 k4).keep w4 k5
      have ks : KeepS (W.add D) H5 (W.add D) (upd H5 D (.lst (us ++ [v]))) := .wrote (.inr rfl)
      refine ⟨us, hD5, by omega, S6, us ++ [v], zs ++ [z], rest', ⟨rfl, rfl, rfl, fun _ h => .inl h, kc5.ln, fun a o n1 n2 h => ?_⟩, w5.wrote (.inr rfl) trivial, upd_same, by rw [List.length_append]; simp; omega, (ra5.append (.cons r5 .nil)).step w5 ks, e4, by rw [List.append_assoc]; exact hy⟩
      have : a ≠ D := by rintro rfl; rw [hD] at h; cases h
      rw [upd_ne this]
      exact kc5.k a o n1 n2 h
  · rintro H2 ⟨S3, us, zs, rest, kc, w2, hH, hl, ra, hr, hy⟩
    rw [List.drop_length] at hr
    obtain ⟨rfl, rfl⟩ := M.pure_eq hr
    rw [List.append_nil] at hy
    subst hy
    exact k D H2 hD kc.k w2 ⟨us, hH, by omega, ra⟩
def eLcD (i : Nat) (vs : List Nat) (g : D → Ev → Option Ev) (ft : Ev → M Bool) (fe : Ev → M D) : Ev → M D := fun ρ => eVarI i ρ >>= fun d => M.of (keysD d) >>= fun ds => compL g ft fe ds (wipeE (lockE i ρ) vs) >>= fun ys => pure (.lst ys)
theorem lcD_at (hg : TGv vs tgt g) (ht : TBv tt ft) (he : TEv te fe) {tL : TE} {J : Obj → It} {W : Wd} {H : Hp} {S S' : Src} {σ : St} {ρ : Ev} {ds ys : List D} {Q : VK} {u : HO} {a : Addr} {i : Nat} {c : Cell}
    (w : WRel W H S) (er : EnvRel W H σ ρ) (hz : ds.length ≤ sizeLine) (hu : isDct u = true) (na : a ≠ W.sa ∧ a ≠ W.ca) (hv : σ[i]? = some (some (.ref a))) (hc : ρ[i]? = some (some c)) (own : W.L a → ∃ d, c = .o d) (hR : Rd H a u)
    (hy : ∀ od (W2 : Wd) (H1 : Hp), W2.sa = W.sa → W2.ca = W.ca → H1 a = some (.frz od u) → Yields (fun W3 H3 => KeepC W2 H1 W3 H3) (J od) ds) (hT : ∀ od (H' : Hp) (Q : VK), H' a = some (.frz od u) → tLc (fun _ H R => R (J od) H) tgt tt te vs σ H' Q → tL σ H' Q)
    (h2 : compL g ft fe ds (wipeE (lockE i ρ) vs) S = some (ys, S')) (k : ∀ p H', H p = none → Keep W H H' → WRel (W.add p) H' S' → Top (W.add p) H' p (.lst ys) → Q (.ref p) H') : tLockE tL σ H Q ∨ tL σ H Q := by
  rcases hR with h | ⟨o, h⟩
  · refine .inl ⟨a, u, h, isDct_mut hu, fun od => hT od _ _ upd_same ?_⟩
    refine lc_at hg ht he (w.lock h hu na od) (er.lock w hv hc (swap_lock h hu od) na own) hz (hy od (W.lock a) _ rfl rfl upd_same) h2 fun p H' hp k1 w1 t1 => ?_
    have hH : H' a = some (.frz od u) := k1 a _ na.1 na.2 upd_same
    have npa : a ≠ p := fun e => by
      rw [← e, upd_same] at hp; cases hp
    have hp0 : H p = none := by rw [upd_ne (fun e => npa e.symm)] at hp; exact hp
    rw [← lock_add npa] at w1 t1
    refine ⟨hH, k p _ hp0 (fun b o n1 n2 hb => ?_) (w1.unlock hH hu na ?_) (t1.swap (swap_open hH hu) (lock_no _ _).symm rfl)⟩
    · by_cases e : b = a
      · subst e
        rw [upd_same, ← hb, h]
      · rw [upd_ne e]
        exact k1 b o n1 n2 (by rw [upd_ne e]; exact hb)
    · rintro (l | l)
      · exact w.ap a l
      · exact absurd l npa
  · have el : lockE i ρ = ρ := by
      unfold lockE
      rw [hc]
      cases c with
      | o d =>
        obtain ⟨v, hv', b, e, l, t⟩ := er.get i _ hc
        rw [hv] at hv'
        obtain rfl := Option.some.inj (Option.some.inj hv')
        cases e
        have m := w.ml a l
        rw [h] at m
        exact m.elim
      | _ => rfl
    rw [el] at h2
    exact .inr (hT o H Q h (lc_at hg ht he w er hz (hy o W H rfl rfl h) h2 k))
theorem rep_noL {W : Wd} {H : Hp} {a : Addr} {d : D} (h : Rep W.no W.sa H (.ref a) d) (hr : (∃ kvs, Rd H a (.dK kvs)) ∨ ∃ kvs, Rd H a (.dT kvs)) (l : W.L a) : W.sa = a := by
  have no : W.no a := .inr (.inl l)
  cases h with
  | src => rfl
  | tup h _ _ =>
    rcases hr with ⟨_, hr | ⟨_, hr⟩⟩ | ⟨_, hr | ⟨_, hr⟩⟩ <;> (rw [h] at hr; cases hr)
  | lst h n _ _ => exact absurd no n
  | ptp h _ n _ _ => exact absurd no n
  | dK h n _ _ => exact absurd no n
  | dT h n _ _ => exact absurd no n
theorem own_of {W : Wd} {H : Hp} {a : Addr} {c : Cell} (na : a ≠ W.sa) (h : CellRel W H (.ref a) c) : (∃ kvs, Rd H a (.dK kvs)) ∨ (∃ kvs, Rd H a (.dT kvs)) → W.L a → ∃ d, c = .o d := by
  intro hr l
  cases c with
  | o d => exact ⟨d, rfl⟩
  | b d =>
    rcases h with h | ⟨b, e, _, _, n, _⟩
    · exact absurd (rep_noL h hr l).symm na
    · cases e; exact absurd l n
  | s d => exact absurd (rep_noL h hr l).symm na
theorem TNv.lcD {i : Nat} (hg : TGv vs tgt g) (ht : TBv tt ft) (he : TEv te fe) : TNv (fun σ H Q => tLockE (tLc (iKeys (tVar i)) tgt tt te vs) σ H Q ∨ tLc (iKeys (tVar i)) tgt tt te vs σ H Q) (eLcD i vs g ft fe) := by
  intro W σ H ρ S d S' Q w er hf k
  obtain ⟨d0, S1, h1, hf⟩ := M.bind_eq hf
  obtain ⟨ds, S2, h2, hf⟩ := M.bind_eq hf
  obtain ⟨ys, S3, h3, hf⟩ := M.bind_eq hf
  obtain ⟨rfl, rfl⟩ := M.pure_eq hf
  obtain ⟨g1, rfl⟩ := M.of_eq h1
  obtain ⟨g2, rfl⟩ := M.of_eq h2
  clear h1 h2
  have h1 := g1
  have h2 := g2
  obtain ⟨c, hc, v, hv, hr, hi⟩ : ∃ c, ρ[i]? = some (some c) ∧ ∃ v, σ[i]? = some (some v) ∧ CellRel W H v c ∧ RepI W H v d0 := by
    cases q : ρ[i]? with
    | none => rw [q] at h1; cases h1
    | some o =>
      cases o with
      | none => rw [q] at h1; cases h1
      | some c =>
        obtain ⟨v, h2, h3⟩ := er.get i _ q
        have h4 := h3.i w
        rw [q] at h1
        cases c <;> (cases h1; exact ⟨_, rfl, v, h2, h3, h4⟩)
  cases d0 with
  | dct b kds =>
    by_cases hfit : kds.all (fun p => keyFit p.1) = true
    · obtain rfl : kds.map (fun p => keyOf p.1) = ds := by
        simp only [keysD, hfit, if_true] at h2
        exact Option.some.inj h2
      cases b with
      | false =>
        obtain ⟨a, kvs, rfl, hR, hz, r, n1, n2⟩ := hi.dK
        refine lcD_at (J := fun od => Itk a od kvs) hg ht he w er (by rw [List.length_map, ← r.length]; exact hz) rfl ⟨n1, n2⟩ hv hc (own_of n1 hr (.inl ⟨_, hR⟩)) hR (fun od W2 H1 _ es e => yields_keys (fun W3 H3 S3 kc w3 => kc.k a _ (by rename_i q; rw [q]; exact n1) (by rw [es]; exact n2) e) r) (fun od H' Q e t => ?_) h3 k
        exact ⟨_, hv, a, od, rfl, .inl ⟨kvs, e, t⟩⟩
      | true =>
        obtain ⟨a, kvs, rfl, hR, hz, r, n1, n2⟩ := hi.dT
        refine lcD_at (J := fun od => Itkt a od kvs) hg ht he w er (by rw [List.length_map, ← r.length]; exact hz) rfl ⟨n1, n2⟩ hv hc (own_of n1 hr (.inr ⟨_, hR⟩)) hR (fun od W2 H1 q es e => yields_keysT (fun W3 H3 S3 kc w3 => kc.k a _ (by rw [q]; exact n1) (by rw [es]; exact n2) e) r hfit) (fun od H' Q e t => ?_) h3 k
        exact ⟨_, hv, a, od, rfl, .inr ⟨kvs, e, t⟩⟩
    · simp only [keysD] at h2
      rw [if_neg hfit] at h2
      cases h2
  | _ => cases h2
theorem en_lcD (i : Nat) {x : Str} {ip : Pos} (hN : X.N.Nodup) (hc : X.calm = true) (ok : blkC X.N X.env.scope scope own = true)
    (hg : ∀ (s : Shared) (H : Hp) (C : Addr) (cl : List (Str × Addr)) (fp : List Addr), EG (X.blk s H scope (compEnvC scope cl C X.env) fp) tg (own.map (·.2)) g)
    (ht : ∀ (s : Shared) (H : Hp) (C : Addr) (cl : List (Str × Addr)) (fp : List Addr), ETs (X.blk s H scope (compEnvC scope cl C X.env) fp) ifs ft)
    (he : ∀ (s : Shared) (H : Hp) (C : Addr) (cl : List (Str × Addr)) (fp : List Addr), EE (X.blk s H scope (compEnvC scope cl C X.env) fp) elt fe)
    (hNi : X.N[i]? = some x := by rfl) (hv : Vis X.env.scope x := by first | exact Or.inl rfl | exact Or.inr (Or.inl rfl) | exact Or.inr (Or.inr rfl)) (hd : (x == ("__debug__" : Str)) = false := by decide)
    (hcd : (x == ("__classdict__" : Str)) = false := by decide)
    (hs : ∀ y, foldedSetIterable (.Name x ip) X.env y = pure y := by intro _; rfl) : EN X (.ListComp elt [⟨tg, .Name x ip, ifs, 0⟩] scope pos) (eLcD i (own.map (·.2)) g ft fe) := by
  have p := pe_lc (elt := elt) (tg := tg) (pos := pos) hc hN (pi_keys (tg := tg) (pe_var (pos := ip) hNi hv hd hcd)) (blkOk_by ok) (fun s H C cl fp => (hg s H C cl fp).max) (fun s H C cl fp => (ht s H C cl fp).max) (fun s H C cl fp => (he s H C cl fp).max) hs
  exact ⟨_, PE.or (pe_lock p) p, TNv.lcD (tG_v _ _) (tT_v _) (tE_v _)⟩
theorem ps_lockAsg {st : Stmt} {tL : TE} {i : Nat} (h : PS X st (tAsg tL (gName i))) : PS X st (tAsg (fun σ H Q => tLockE tL σ H Q ∨ tL σ H Q) (gName i)) :=
  ⟨fun pins s σ H D I r => r.elim (fun ⟨d, u, h1, mu, hw⟩ => (ps_lock h).run pins s σ H D I ⟨d, u, h1, mu, fun od => hw od⟩) (h.run pins s σ H D I)⟩
theorem ss_lcD (i : Nat) {x : Str} {ip spos py : Pos} {j : Nat} {y : Str} {b : Bool} (hN : X.N.Nodup) (hc : X.calm = true) (ok : blkC X.N X.env.scope scope own = true)
    (hg : ∀ (s : Shared) (H : Hp) (C : Addr) (cl : List (Str × Addr)) (fp : List Addr), EG (X.blk s H scope (compEnvC scope cl C X.env) fp) tg (own.map (·.2)) g)
    (ht : ∀ (s : Shared) (H : Hp) (C : Addr) (cl : List (Str × Addr)) (fp : List Addr), ETs (X.blk s H scope (compEnvC scope cl C X.env) fp) ifs ft)
    (he : ∀ (s : Shared) (H : Hp) (C : Addr) (cl : List (Str × Addr)) (fp : List Addr), EE (X.blk s H scope (compEnvC scope cl C X.env) fp) elt fe)
    (hb : b = true) (hsw : swapsWith (.ListComp elt [⟨tg, .Name x ip, ifs, 0⟩] scope pos) (some (.Name y py)) spos.line X.env = pure true)
    (hNi : X.N[i]? = some x := by rfl) (hv : Vis X.env.scope x := by first | exact Or.inl rfl | exact Or.inr (Or.inl rfl) | exact Or.inr (Or.inr rfl)) (hd : (x == ("__debug__" : Str)) = false := by decide)
    (hcd : (x == ("__classdict__" : Str)) = false := by decide)
    (hy : X.N[j]? = some y := by rfl) (hyl : X.env.scope.names.lookup y = some .local := by rfl)
    (hs : ∀ y, foldedSetIterable (.Name x ip) X.env y = pure y := by intro _; rfl) :
    SS X (.Assign [.Name y py] (.ListComp elt [⟨tg, .Name x ip, ifs, 0⟩] scope pos) spos) (sSet j (eLcD i (own.map (·.2)) g ft fe)) ∧
      SS X (.Assign [.Name y py] (.ListComp elt [⟨tg, .Name x ip, ifs, 0⟩] scope pos) spos) (sOwn j (eLcD i (own.map (·.2)) g ft fe)) := by
  have h := ps_lockAsg (ps_setLc (elt := elt) (tg := tg) hc hN hy hyl hsw (pi_keys (tg := tg) (pe_var (pos := ip) hNi hv hd hcd)) (blkOk_by ok) (fun s H C cl fp => (hg s H C cl fp).max) (fun s H C cl fp => (ht s H C cl fp).max) (fun s H C cl fp => (he s H C cl fp).max) hs)
  have q : TNv _ (eLcD i (own.map (·.2)) g ft fe) := TNv.lcD (tG_v _ _) (tT_v _) (tE_v _)
  exact ⟨ss_set_of h q.ee, ss_own_of h q⟩
end
end L2.EV

/-! EV, part T: sorted(d) of a dict. -/
namespace L2.EV
open PySem PySem.Spec PyProof.Rows

inductive KeyV (H : Hp) : V → D → Prop
  | k (k : Key) : KeyV H (kV k) (scD k)
  | t {q : Addr} {ks : List Key} : H q = some (.tup (ks.map kV)) → KeyV H (.ref q) (.tup (ks.map scD))
def DictKeys (H : Hp) (a : Addr) (ds : List D) : Prop := (∃ kvs : List (Key × V), Rd H a (.dK kvs) ∧ ds = kvs.map fun p => scD p.1) ∨ ∃ kvs : List (List Key × V), Rd H a (.dT kvs) ∧ ds = kvs.map fun p => .tup (p.1.map scD)
theorem raw_K {P : Program} {w : World} : ∀ {es : List DictEntry} {vs : List (Key × Value)} {kvs : List (Key × V)}, Pairs (mixKind P w) es vs → KV kvs vs → Vals (kvs.map fun p => kV p.1) (es.map (·.key))
  | [], [], [], _, _ => .nil
  | e :: es, q :: vs, p :: kvs, h, r => by
    cases h with
    | cons h1 hv h2 =>
      cases r with
      | cons r1 r2 =>
        refine .cons ?_ (raw_K h2 r2)
        obtain ⟨e1, _⟩ := r1
        show RelV (kV p.1) e.key
        rw [e1]
        exact relV_key h1
  | [], _ :: _, _, h, _ => nomatch h
  | _ :: _, [], _, h, _ => nomatch h
  | [], [], _ :: _, _, r => nomatch r
  | _ :: _, _ :: _, [], _, r => nomatch r
theorem raw_T {P : Program} {w : World} {H : Hp} : ∀ {xs : List (List Key × Addr × Value)} {kvs : List (List Key × V)}, KT H kvs xs → ∃ bs : List (V × D), bs.map (·.2) = (kvs.map fun p => D.tup (p.1.map scD)) ∧ (∀ b ∈ bs, KeyV H b.1 b.2) ∧ Vals (bs.map (·.1)) ((xs.map (entryOfKey (tupleKind (mixKind P w)))).map (·.key))
  | [], [], _ => ⟨[], rfl, (fun b h => absurd h List.not_mem_nil), .nil⟩
  | x :: xs, p :: kvs, r => by
    cases r with
    | cons r1 r2 =>
      obtain ⟨bs, h1, h2, h3⟩ := raw_T (P := P) (w := w) r2
      obtain ⟨e1, e2, e3⟩ := r1
      refine ⟨(.ref x.2.1, .tup (p.1.map scD)) :: bs, by rw [List.map_cons, h1]; rfl, fun b hb => ?_, .cons rfl h3⟩
      rcases List.mem_cons.mp hb with rfl | hb
      · exact .t e2
      · exact h2 b hb
  | [], _ :: _, r => nomatch r
  | _ :: _, [], r => nomatch r
theorem raw_of {X : Cx} {pins : List (Addr × Obj)} {σ : St} {H : Hp} {s : Shared} {a : Addr} {ds : List D} (I : Inv X pins σ H s) (h : DictKeys H a ds) :
    (a == sysModules) = false ∧ ds.length ≤ sizeLine ∧ ∃ es ep, s.heap.DictRaw a es ep ∧ ∃ bs : List (V × D), bs.map (·.2) = ds ∧ (∀ b ∈ bs, KeyV H b.1 b.2) ∧ Vals (bs.map (·.1)) (es.toList.map (·.key)) := by
  rcases h with ⟨kvs, hR, rfl⟩ | ⟨kvs, hR, rfl⟩
  · obtain ⟨z, lo, vs, rel, o, es, ep, h1, h2, h3, h4, h5, h6⟩ := dk_rd I.hok hR
    refine ⟨lo, by rw [List.length_map]; exact z, es, ep, ⟨o, h1, h2, h3⟩, kvs.map fun p => (kV p.1, scD p.1), by rw [List.map_map]; rfl, fun b hb => ?_, by rw [List.map_map]; exact raw_K h5 rel⟩
    obtain ⟨p, _, rfl⟩ := List.mem_map.mp hb
    exact .k p.1
  · obtain ⟨z, lo, xs, rel, o, es, ep, h1, h2, h3, h4, h5⟩ := dt_rd I.hok hR
    obtain ⟨bs, g1, g2, g3⟩ := raw_T (P := X.prog) (w := X.w) rel
    exact ⟨lo, by rw [List.length_map]; exact z, es, ep, ⟨o, h1, h2, h3⟩, bs, g1, g2, by rw [h4]; exact g3⟩
def rSortK : List V → Hp → VK → Prop := fun xs H Q => ∃ (a : Addr) (ds : List D), xs = [.ref a] ∧ DictKeys H a ds ∧ PySem.W.AllAlike (ds.map pyD) ∧ PySem.W.Sortable (ds.map pyD) ∧ (∀ d ∈ ds, (pyD d).depth ≤ 40) ∧ (∀ (K : PySem.W.Frag) (b : V × D), KeyV H b.1 b.2 → b.2 ∈ ds → Dp K H b.1 (pyD b.2)) ∧
  ∀ bs : List (V × D), bs.map (·.2) = ds → (∀ b ∈ bs, KeyV H b.1 b.2) → ∀ p, H p = none → Q (.ref p) (upd H p (.lst ((bs.mergeSort (PySem.W.dataLe false fun b => pyD b.2)).map (·.1))))
theorem cr_sortK {X : Cx} (hc : X.calm = true) (hu : X.A.units + 64 < cLine) : CallR X (.builtin "sorted") rSortK := by
  intro pins s σ H xs us Q I r h
  obtain ⟨a, ds, rfl, hk, hal, hs, hdp, hD, q⟩ := h
  rw [Vals.ref1 r]
  obtain ⟨lo, hz, es, ep, hraw, bs, hbs, hkv, hv⟩ := raw_of I hk
  have hlen : bs.length = es.size := by have := hv.length; simpa using this
  have hlb : bs.length = ds.length := by rw [← hbs, List.length_map]
  have hmem : ∀ b ∈ bs, b.2 ∈ ds := fun b hb => by rw [← hbs]; exact List.mem_map.mpr ⟨b, hb, rfl⟩
  refine Calls.call_function_entry PyProof.Rows.kind_sorted PyProof.Rows.plain_sorted PyProof.Rows.entry_sorted (PyProof.Rows.args_sorted1 _) ?_
  unfold Builtin.«sorted»
  refine wpAny_bind (m := checkCount "sorted" 1 1 _) (wpAny_pure ?_)
  refine wpAny_bind (PySem.W.kdu_collect (A := X.A.in1) (PySem.KdlSrc.rawDict lo) (I.ok.hd hc) hraw (by omega) fun h' tk acc hk' hacc => ?_)
  have hacc' : acc.toList = es.toList.map (·.key) := by
    refine List.ext_getElem? fun j => ?_
    rw [Array.getElem?_toList, List.getElem?_map, Array.getElem?_toList]
    cases e : acc[j]? with
    | none =>
      have : acc.size ≤ j := by simpa using e
      rw [hacc.1] at this
      rw [Array.getElem?_eq_none this]; rfl
    | some v =>
      obtain ⟨hi, e2⟩ := hacc.2 j v e
      rw [Array.getElem?_eq_getElem hi, e2]; rfl
  rw [hacc']
  have I1 : Inv X pins σ H { s with heap := h', toks := tk } := I.kept hk'
  generalize es.toList.map (·.key) = ks at hv hacc'
  have hkl : ks.length = bs.length := by have := hv.length; simpa using this.symm
  refine wpAny_bind (wpAny_newList ?_ (by rw [hkl, hlb]; exact hz))
  have hoL : (h'.push (seqObj "list" ks.toArray 0)).get? h'.objs.size = some (seqObj "list" ks.toArray 0) := Heap.get?_push_size _ rfl
  show wpAny _ _ _ _ _ { s with heap := h'.push (seqObj "list" ks.toArray 0), toks := tk }
  have e := each_of (P := fun u b => RelV b.1 u) hv fun b hb u ru => ru
  have er := each_of (P := fun u b => ∃ as, Reads h' u (pyD b.2) as) hv fun b hb u ru => Dp.reads I1 _ _ _ (hD _ b (hkv b hb) (hmem b hb)) ru
  have er' : PySem.W.EachIs (fun v b => ∃ as, Reads (PySem.W.sortingHeap (h'.push (seqObj "list" ks.toArray 0)) h'.objs.size ks) v (pyD b.2) as) ks bs := er.mono fun _ _ ⟨as, r⟩ => ⟨as, PyProof.Rows.Reads.keeps (fun b o e => PySem.W.sortingHeap_old (Nat.ne_of_lt (Heap.lt_size e)) (Heap.get?_push_of_some _ e)) r⟩
  have hal' : PySem.W.AllAlike (bs.map fun b => pyD b.2) := by
    have := hal; rw [← hbs, List.map_map] at this; exact this
  have hs' : PySem.W.Sortable (bs.map fun b => pyD b.2) := by
    have := hs; rw [← hbs, List.map_map] at this; exact this
  refine wpAny_bind (wpAny_holding (wpAny_call_entry PyProof.Rows.slot_list_sort ⟨_, hoL, rfl⟩ PyProof.Rows.entry_list_sort
    (PySem.W.list_sort_vals (s := { s with heap := h'.push (seqObj "list" ks.toArray 0), toks := tk }) hoL (PySem.W.SortsAt.data (s := { s with heap := PySem.W.sortingHeap (h'.push (seqObj "list" ks.toArray 0)) h'.objs.size ks, toks := tk }) (PySem.W.each_map (R := fun v d => ∃ as, Reads (PySem.W.sortingHeap (h'.push (seqObj "list" ks.toArray 0)) h'.objs.size ks) v d as) (fun b : V × D => pyD b.2) er') hal' hs' (PySem.W.bound_map fun b hb => by have := hdp _ (hmem b hb); show X.A.units + 2 + _ < cLine; omega)) (by omega) ⟨.none, rfl, ?_⟩) (PyProof.Rows.args_list_sort _)))
  have eo := PySem.W.sortVals_data (h' := PySem.W.sortingHeap (h'.push (seqObj "list" ks.toArray 0)) h'.objs.size ks) false e er' hal'
  generalize hout : PySem.W.sortVals (PySem.W.dataKind (PySem.W.sortingHeap (h'.push (seqObj "list" ks.toArray 0)) h'.objs.size ks) (bs.map fun b => pyD b.2)) false ks ks = out at eo ⊢
  obtain ⟨e', he'⟩ := PyProof.Rows.sortedHeap_at (vs := ks) (out := out.toArray) hoL
  have hv2 := vals_of_each eo
  have hlen2 : ((bs.mergeSort (PySem.W.dataLe false fun b => pyD b.2)).map (·.1)).length ≤ sizeLine := by rw [List.length_map, List.length_mergeSort, hlb]; exact hz
  refine wpAny_pure ⟨_, rfl, .ref h'.objs.size, upd H h'.objs.size (.lst _), I1.laid (t' := tk) (fun b u e => ?_) (Nat.le_refl _) ⟨hlen2, out, e', hv2, he'⟩, rfl, q bs hbs hkv _ (I1.hok.fresh (Nat.le_refl _))⟩
  have hb : b < h'.objs.size := Heap.lt_size e
  rw [PyProof.Rows.sortedHeap_old (Nat.ne_of_lt hb) (by rw [size_push']; exact Nat.lt_succ_of_lt hb)]
  exact Heap.get?_push_of_some _ e
theorem RepK.names {N : Addr → Prop} {sa : Addr} {H : Hp} : ∀ {kvs : List (Key × V)} {kds : List (DKey × D)}, RepK N sa H kvs kds → (kds.map fun p => keyOf p.1) = kvs.map fun p => scD p.1
  | _, _, .nil => rfl
  | _, _, .cons _ t => by rw [List.map_cons, List.map_cons, RepK.names t]; rfl
theorem RepT.names {N : Addr → Prop} {sa : Addr} {H : Hp} : ∀ {kvs : List (List Key × V)} {kds : List (DKey × D)}, RepT N sa H kvs kds → (kds.map fun p => keyOf p.1) = kvs.map fun p => D.tup (p.1.map scD)
  | _, _, .nil => rfl
  | _, _, .cons _ t => by rw [List.map_cons, List.map_cons, RepT.names t]; rfl
theorem py_sc (k : Key) : ∃ p, D.py (scD k) = some p := by
  cases k with
  | inl i => exact ⟨.int i, by simp [scD, D.py]⟩
  | inr x => exact ⟨.str x, by simp [scD, D.py]⟩
theorem py_scs : ∀ ks : List Key, ∃ ps, pyAll (ks.map scD) = some ps
  | [] => ⟨[], by simp [pyAll]⟩
  | k :: ks => by
    obtain ⟨p, h⟩ := py_sc k
    obtain ⟨ps, g⟩ := py_scs ks
    exact ⟨p :: ps, by simp [pyAll, h, g]⟩
theorem KeyV.rep {N : Addr → Prop} {sa : Addr} {H : Hp} {v : V} {d : D} {kds : List (DKey × D)} (h : KeyV H v d) (hm : d ∈ kds.map fun p => keyOf p.1) (hf : kds.all (fun p => keyFit p.1) = true) : Rep N sa H v d ∧ ∃ p, D.py d = some p := by
  cases h with
  | k k => exact ⟨scD_rep k, py_sc k⟩
  | t hq =>
    rename_i q ks
    obtain ⟨p, hp, e⟩ := List.mem_map.mp hm
    have hz : ks.length ≤ sizeLine := by
      have hfp := List.all_eq_true.mp hf p hp
      cases hp1 : p.1 with
      | k x => rw [hp1] at e; cases x <;> cases e
      | t ks' =>
        rw [hp1] at e hfp
        have e2 : ks'.map scD = ks.map scD := D.tup.inj e
        have e3 := congrArg List.length e2
        rw [List.length_map, List.length_map] at e3
        have : ks'.length ≤ sizeLine := by simpa [keyFit] using hfp
        omega
    obtain ⟨ps, g⟩ := py_scs ks
    exact ⟨.tup hq (by rw [List.length_map]; exact hz) (scDs_rep ks), .tuple ps, by simp [D.py, g]⟩
open Classical in
noncomputable def dSortK : List D → Option D
  | [.dct _ kds] => if kds.all (fun p => keyFit p.1) = true ∧ (∀ d ∈ kds.map (fun p => keyOf p.1), (pyD d).depth ≤ 40) ∧ PySem.W.AllAlike ((kds.map fun p => keyOf p.1).map pyD) ∧ PySem.W.Sortable ((kds.map fun p => keyOf p.1).map pyD) then some (.lst ((kds.map fun p => keyOf p.1).mergeSort (PySem.W.dataLe false pyD))) else none
  | _ => none
theorem cv_sortK : CallV rSortK dSortK := by
  intro W H S vs ds d Q w a h k
  unfold dSortK at h
  split at h
  · rename_i bb kds
    split at h
    · rename_i c
      cases h
      obtain ⟨c0, c1, c2, c3⟩ := c
      obtain ⟨v, rfl, r⟩ := a.one
      have key : ∃ p, v = .ref p ∧ DictKeys H p (kds.map fun p => keyOf p.1) ∧ kds.length ≤ sizeLine := by
        cases bb with
        | false =>
          obtain ⟨p, kvs, rfl, hR, z, r, _⟩ := r.dK
          exact ⟨p, rfl, .inl ⟨kvs, hR, r.names⟩, by rw [← r.length]; exact z⟩
        | true =>
          obtain ⟨p, kvs, rfl, hR, z, r, _⟩ := r.dT
          exact ⟨p, rfl, .inr ⟨kvs, hR, r.names⟩, by rw [← r.length]; exact z⟩
      obtain ⟨p, rfl, hk, hz⟩ := key
      refine ⟨p, kds.map fun p => keyOf p.1, rfl, hk, c2, c3, c1, fun K b hb hm => ?_, fun bs hbs hkv q hq => ?_⟩
      · obtain ⟨r, pp, e⟩ := KeyV.rep (N := W.no) (sa := W.sa) hb hm c0
        refine r.dp ?_
        unfold pyD
        rw [e]; rfl
      · have es : (bs.mergeSort (PySem.W.dataLe false fun b => pyD b.2)).map (·.2) = (kds.map fun p => keyOf p.1).mergeSort (PySem.W.dataLe false pyD) := by
          have q := List.map_mergeSort (r := PySem.W.dataLe false fun b : V × D => pyD b.2) (s := PySem.W.dataLe false pyD) (f := fun b : V × D => b.2) (l := bs) (fun a _ b _ => rfl)
          rw [hbs] at q
          exact q
        rw [← es] at k
        have rs : RepAll W.no W.sa H ((bs.mergeSort (PySem.W.dataLe false fun b => pyD b.2)).map (·.1)) ((bs.mergeSort (PySem.W.dataLe false fun b => pyD b.2)).map (·.2)) :=
          RepAll.of_pairs fun b hb => (KeyV.rep (hkv b (List.mem_mergeSort.mp hb)) (by rw [← hbs]; exact List.mem_map_of_mem (List.mem_mergeSort.mp hb)) c0).1
        have hlen : bs.length = kds.length := by have := congrArg List.length hbs; rwa [List.length_map, List.length_map] at this
        exact k _ _ (keep_laid hq) (w.laid hq) (rep_newL w rs (by rw [List.length_map, List.length_mergeSort, hlen]; exact hz) hq)
    · cases h
  · cases h
end L2.EV

/-! EV, part U: tuples known as they lie, dict(one of them); dicts by numbers, sorted keys (evaluation side). -/
namespace L2.EV
open PySem PySem.Spec PyProof.Rows
/-! ### tuple(xs), known as it lies; dict(that) -/
def dTupleP : List D → Option D
  | [.lst xs] => some (.ptp xs)
  | _ => none
def rTupleP (K : PySem.W.Frag) : List V → Hp → VK → Prop := fun xs H Q => ∃ p ys, xs = [.ref p] ∧ SqL K H p ys ∧ ∀ l o, o.dict = none → H l = none → Q (.ref l) (upd H l (.frz o (.tup ys)))
theorem cr_tupleP {X : Cx} : CallR X (.type "tuple") (rTupleP X.K) := by
  intro pins s σ H xs us Q I r h
  obtain ⟨p, ys, rfl, hq, q⟩ := h
  rw [Vals.ref1 r]
  obtain ⟨its, r', pl, hz⟩ := I.list hq
  have hlen := r'.length
  refine call_tuple_list pl.isList (fun h' kp => ?_) (by simp only [List.size_toArray] <;> omega)
  have I1 : Inv X pins σ H { s with heap := h' } := I.kept (t' := s.toks) kp
  have I2 : Inv X pins σ (upd H h'.objs.size (.frz { cls := .type "tuple", data := .seq its.toArray } (.tup ys))) { s with heap := h'.push { cls := .type "tuple", data := .seq its.toArray } } :=
    I1.laid (t' := s.toks) (fun b o e => Heap.get?_push_of_some _ e) (Nat.le_refl _) (show ObjOk X.prog X.w _ _ _ (.frz _ (.tup ys)) from ⟨Heap.get?_push_size _ rfl, hz, its, r', IsTup.new _ _⟩)
  exact ⟨.ref h'.objs.size, _, I2, rfl, q _ _ rfl (I1.hok.fresh (Nat.le_refl _))⟩
theorem cv_tupleP {K : PySem.W.Frag} : CallV (rTupleP K) dTupleP := by
  intro W H S vs ds d Q w a h k
  unfold dTupleP at h
  split at h
  · cases h
    obtain ⟨v, rfl, r⟩ := a.one
    obtain ⟨p, us, rfl, hH, z, r, _⟩ := r.lst
    exact ⟨p, us, rfl, .of hH, fun l o ho hl => k _ _ (keep_laid hl) (w.laid hl) (.ptp upd_same ho (new_no w hl) z (r.laid w hl))⟩
  · cases h
def rDictTP : List V → Hp → VK → Prop := fun xs H Q => ∃ (a : Addr) (o : Obj) (as : List Addr) (kvs : List (List Key × Addr × V)), xs = [.ref a] ∧ H a = some (.frz o (.tup (as.map V.ref))) ∧ o.dict = none ∧ as.length ≤ sizeLine ∧
  Paired (fun p (kv : List Key × Addr × V) => H p = some (.tup [.ref kv.2.1, kv.2.2]) ∧ H kv.2.1 = some (.tup (kv.1.map kV))) as kvs ∧ ∀ p, H p = none → Q (.ref p) (upd H p (.dT (mergeT [] (kvs.map fun kv => (kv.1, kv.2.2)))))
theorem cr_dictTP {X : Cx} (hc : X.calm = true) (hu : X.A.units + 64 < cLine) : CallR X (.type "dict") rDictTP := by
  intro pins s σ H xs us Q I r h
  obtain ⟨a, o, as, kvs, rfl, hH, hod, _, hp, q⟩ := h
  rw [Vals.ref1 r]
  obtain ⟨ho, hz, its, rv, o', ho', hcl, n, hdat⟩ := (show ObjOk X.prog X.w H s.heap a (.frz o (.tup (as.map V.ref))) from I.hok a _ hH)
  rw [ho] at ho'
  cases ho'
  have ei := refs_at rv
  subst ei
  obtain ⟨xs, hl, kt, hx⟩ := pairsT_lie I.hok hp
  rw [List.length_map] at hz
  have P := PairArg.tuple (prog := X.prog) (w := X.w) a (as.map Value.ref).toArray (fun j => as.getD j 0) (xs.map fun x => (Value.ref x.2.1, x.2.2))
  refine call_dict_pairsH (knd := tupleKind (mixKind X.prog X.w)) (ps := xs) P (I.ok.hd hc) (show X.A.units + 1 + 1 < cLine by omega) ⟨⟨o, n, ho, hcl, hod, hdat⟩, by simp [hl], fun j k v hj => ?_⟩ ⟨by rw [List.length_map], fun i key v hi => ?_⟩ (fun h' hk x hm => ?_) (by rw [List.length_map, ← hl]; exact hz) fun h' tk hd' k => ?_
  · rw [List.getElem?_map] at hj
    cases e : xs[j]? with
    | none => rw [e] at hj; cases hj
    | some x =>
      rw [e] at hj
      cases hj
      obtain ⟨p, h1, h2, _⟩ := hx j x e
      have hp : as.getD j 0 = p := by rw [List.getD_eq_getElem?_getD, h1]; rfl
      show _ = some (Value.ref (as.getD j 0)) ∧ PairAt s.heap (as.getD j 0) _ _
      rw [hp]
      exact ⟨by simp [h1], h2⟩
  · have hi : (xs.map fun x => (Value.ref x.2.1, x.2.2))[i]? = some (key, v) := hi
    rw [List.getElem?_map] at hi
    cases e : xs[i]? with
    | none => rw [e] at hi; cases hi
    | some x =>
      rw [e] at hi
      cases hi
      exact ⟨x.1, x.2.1, rfl, rfl⟩
  · obtain ⟨j, hj⟩ := List.getElem?_of_mem hm
    obtain ⟨p, _, _, h3⟩ := hx j x hj
    exact tupleKind_stays.stays (fun b ob _ _ e _ => hk b ob (Nat.ne_of_lt (Heap.lt_size e)) (fun z => nomatch z) e) (key_of I.hok h3)
  · have hm : (s.heap.objs.size == sysModules) = false := beq_eq_false_iff_ne.mpr (Nat.ne_of_gt I.big)
    have k' : ∀ b ob, s.heap.get? b = some ob → h'.get? b = some ob := fun b ob e => k b ob (fun z => nomatch z) e
    have hn := I.hok.fresh (Nat.le_refl s.heap.objs.size)
    have kt2 := KT.merge kt (.nil : KT H [] [])
    have hlen : (mergeT [] (kvs.map fun kv => (kv.1, kv.2.2))).length ≤ sizeLine := by
      refine Nat.le_trans (length_mergeT _ _) ?_
      rw [List.length_nil, Nat.zero_add, Paired.length kt, ← hl]
      exact hz
    obtain ⟨ob, es, ep, h1, h2, h3, h4, _, h5⟩ := hd'
    refine ⟨.ref s.heap.objs.size, upd H s.heap.objs.size (.dT _), I.laid (t' := tk) k' (Nat.le_refl _) (show ObjOk X.prog X.w _ _ _ (.dT _) from ⟨hlen, hm, _, kt2.keeps fun b ys e => upd_keep hn e, ob, es, ep, h1, h2, h3, h4, h5⟩), rfl, q _ hn⟩
def dDictP : List D → Option D
  | [.ptp xs] => dDict true [.lst xs]
  | _ => none
theorem cn_dictTP : CallN rDictTP dDictP := by
  intro W H S vs ds d Q w a h k
  unfold dDictP at h
  split at h
  · rename_i xs
    have h : (pairsBy pairT xs).map (fun ps => D.dct true (mergeD [] (tagT ps))) = some d := h
    cases e : pairsBy pairT xs with
    | none => rw [e] at h; cases h
    | some ps =>
      rw [e] at h; cases h
      obtain ⟨v, rfl, r⟩ := a.one
      rcases r with r | ⟨a, _, _, _, t⟩
      · cases r with
        | @ptp p o us _ hH hod n z r =>
          obtain ⟨as, kvs, h1, h2, h3⟩ := pairsT_rep r e
          rw [h1] at hH z
          refine ⟨p, o, as, kvs, rfl, hH, hod, by rw [List.length_map] at z; exact z, h2, fun l hl => ?_⟩
          have hlen : (mergeT [] (kvs.map fun kv => (kv.1, kv.2.2))).length ≤ sizeLine := by
            refine Nat.le_trans (length_mergeT _ _) ?_
            rw [List.length_nil, Nat.zero_add, List.length_map, ← Paired.length h2]
            rw [List.length_map] at z
            exact z
          have t := top_dT w hl (RepT.merge h3 .nil) hlen
          exact k l _ hl t.1 t.2.1 t.2.2
      · exact t.elim
  · cases h
/-! ### dicts by numbers -/
def nk (n : Nat) : DKey := .k (.inl (n : Int))
theorem nk_inj {a b : Nat} : nk a = nk b ↔ a = b := by
  constructor
  · intro h
    have := Sum.inl.inj (DKey.k.inj h)
    omega
  · intro h; rw [h]
def eK {β : Type} (ev : β → D) (tab : List (Nat × β)) : D := .dct false (tab.map fun p => (nk p.1, ev p.2))
def putN {β : Type} (tab : List (Nat × β)) (l : Nat) (v : β) : List (Nat × β) := if l ∈ tab.map (·.1) then tab.map (fun p => if p.1 = l then (p.1, v) else p) else tab ++ [(l, v)]
def mergeN {β : Type} (tab more : List (Nat × β)) : List (Nat × β) := more.foldl (fun acc p => putN acc p.1 p.2) tab
section
variable {β : Type} {ev : β → D} {tab more : List (Nat × β)}
theorem dKey_N (l : Nat) : dKey (eN l) = some (nk l) := by simp [eN, dKey, scKey, nk]
theorem find_K (l : Nat) : lookD (tab.map fun p => (nk p.1, ev p.2)) (nk l) = (tab.find? fun p => decide (p.1 = l)).map fun p => ev p.2 := by
  unfold lookD
  induction tab with
  | nil => rfl
  | cons p tab ih =>
    rw [List.map_cons, List.find?_cons, List.find?_cons]
    by_cases c : p.1 = l
    · subst c; simp
    · have c' : ¬ (nk p.1 = nk l) := fun z => c (nk_inj.mp z)
      rw [decide_eq_false c, decide_eq_false c']
      exact ih
theorem look_K (l : Nat) : dLook (eK ev tab) (eN l) = some ((tab.find? fun p => decide (p.1 = l)).map fun p => ev p.2) := by
  unfold eK dLook
  rw [dKey_N]
  exact congrArg some (find_K l)
theorem find_isSomeN (l : Nat) : (tab.find? fun p => decide (p.1 = l)).isSome = decide (l ∈ tab.map (·.1)) := by
  induction tab with
  | nil => rfl
  | cons p tab ih =>
    rw [List.find?_cons]
    by_cases c : p.1 = l
    · subst c; simp
    · have c' : ¬ l = p.1 := fun z => c z.symm
      rw [decide_eq_false c, ih]
      simp [c']
theorem dIn_K (l : Nat) : dIn (eN l) (eK ev tab) = some (.bl (decide (l ∈ tab.map (·.1)))) := by
  have e : dIn0 (eN l) (eK ev tab) = (dLook (eK ev tab) (eN l)).map (·.isSome) := rfl
  rw [dIn, e, look_K]
  show some (D.bl (Option.map _ _).isSome) = _
  rw [Option.isSome_map, find_isSomeN]
theorem dNotIn_K (l : Nat) : dNotIn (eN l) (eK ev tab) = some (.bl (!decide (l ∈ tab.map (·.1)))) := by
  have e : dIn0 (eN l) (eK ev tab) = (dLook (eK ev tab) (eN l)).map (·.isSome) := rfl
  rw [dNotIn, e, look_K]
  show some (D.bl (!(Option.map _ _).isSome)) = _
  rw [Option.isSome_map, find_isSomeN]
theorem dIx_K (l : Nat) {p : Nat × β} (h : (tab.find? fun p => decide (p.1 = l)) = some p) : dIx (eK ev tab) (eN l) = some (ev p.2) := by
  have e : dIx (eK ev tab) (eN l) = match dLook (eK ev tab) (eN l) with | some (some d) => some d | _ => none := rfl
  rw [e, look_K, h]
  rfl
theorem find_memN (h : (tab.map (·.1)).Nodup) {l : Nat} {v : β} (hm : (l, v) ∈ tab) : (tab.find? fun p => decide (p.1 = l)) = some (l, v) := by
  induction tab with
  | nil => cases hm
  | cons p tab ih =>
    rw [List.map_cons, List.nodup_cons] at h
    rw [List.find?_cons]
    rcases List.mem_cons.mp hm with rfl | hm
    · rw [decide_eq_true rfl]
    · have : ¬ p.1 = l := fun z => h.1 (by rw [z]; exact List.mem_map.mpr ⟨_, hm, rfl⟩)
      rw [decide_eq_false this]
      exact ih h.2 hm
theorem dIx_Km (h : (tab.map (·.1)).Nodup) {l : Nat} {v : β} (hm : (l, v) ∈ tab) : dIx (eK ev tab) (eN l) = some (ev v) := dIx_K l (find_memN h hm)
theorem put_KN (l : Nat) (v : β) : putD (tab.map fun p => (nk p.1, ev p.2)) (nk l) (ev v) = (putN tab l v).map fun p => (nk p.1, ev p.2) := by
  unfold putD putN
  have e : ((tab.map fun p => (nk p.1, ev p.2)).any fun p => decide (p.1 = nk l)) = decide (l ∈ tab.map (·.1)) := by
    rw [Bool.eq_iff_iff, List.any_eq_true, decide_eq_true_eq]
    constructor
    · rintro ⟨q, hq, e⟩
      obtain ⟨p, hp, rfl⟩ := List.mem_map.mp hq
      exact List.mem_map.mpr ⟨p, hp, nk_inj.mp (of_decide_eq_true e)⟩
    · intro hm
      obtain ⟨p, hp, rfl⟩ := List.mem_map.mp hm
      exact ⟨_, List.mem_map.mpr ⟨p, hp, rfl⟩, decide_eq_true rfl⟩
  rw [e]
  by_cases c : l ∈ tab.map (·.1)
  · rw [if_pos c, decide_eq_true c, if_pos rfl, List.map_map, List.map_map]
    refine List.map_congr_left fun p _ => ?_
    by_cases c2 : p.1 = l
    · simp [c2]
    · have : ¬ nk p.1 = nk l := fun z => c2 (nk_inj.mp z)
      simp [c2, this]
  · rw [if_neg c, decide_eq_false c, if_neg Bool.false_ne_true, List.map_append]
    rfl
theorem dPut_K (l : Nat) (v : β) (h : tab.length < sizeLine) : dPut (eK ev tab) (eN l) (ev v) = some (eK ev (putN tab l v)) := by
  unfold eK dPut
  simp only [dKey_N]
  have e : (match some (nk l) with
    | some (.k x) => if (tab.map fun p => (nk p.1, ev p.2)).length < sizeLine then some (D.dct false (putD (tab.map fun p => (nk p.1, ev p.2)) (.k x) (ev v))) else none
    | _ => none) = if (tab.map fun p => (nk p.1, ev p.2)).length < sizeLine then some (D.dct false (putD (tab.map fun p => (nk p.1, ev p.2)) (nk l) (ev v))) else none := rfl
  refine e.trans ?_
  rw [if_pos (by rw [List.length_map]; exact h)]
  exact congrArg (fun z => some (D.dct false z)) (put_KN l v)
theorem mem_putN (l : Nat) (v : β) (b : Nat) (x : β) : (b, x) ∈ putN tab l v ↔ (b = l ∧ x = v) ∨ (b ≠ l ∧ (b, x) ∈ tab) := by
  unfold putN
  by_cases c : l ∈ tab.map (·.1)
  · rw [if_pos c, List.mem_map]
    constructor
    · rintro ⟨⟨p, y⟩, hp, e⟩
      by_cases c2 : p = l
      · rw [if_pos c2] at e
        simp only [Prod.mk.injEq] at e
        exact .inl ⟨by omega, e.2.symm⟩
      · rw [if_neg c2] at e
        simp only [Prod.mk.injEq] at e
        obtain ⟨rfl, rfl⟩ := e
        exact .inr ⟨c2, hp⟩
    · rintro (⟨rfl, rfl⟩ | ⟨h1, h2⟩)
      · obtain ⟨p, hp, rfl⟩ := List.mem_map.mp c
        exact ⟨p, hp, by rw [if_pos rfl]⟩
      · exact ⟨_, h2, by rw [if_neg h1]⟩
  · rw [if_neg c, List.mem_append, List.mem_singleton, Prod.mk.injEq]
    constructor
    · rintro (h | h)
      · exact .inr ⟨fun z => c (by rw [← z]; exact List.mem_map.mpr ⟨_, h, rfl⟩), h⟩
      · exact .inl h
    · rintro (h | ⟨_, h⟩)
      · exact .inr h
      · exact .inl h
theorem keys_putN (l : Nat) (v : β) : (putN tab l v).map (·.1) = if l ∈ tab.map (·.1) then tab.map (·.1) else tab.map (·.1) ++ [l] := by
  unfold putN
  by_cases c : l ∈ tab.map (·.1)
  · rw [if_pos c, if_pos c, List.map_map]
    refine List.map_congr_left fun p _ => ?_
    show (if p.1 = l then (p.1, v) else p).1 = p.1
    split <;> rfl
  · rw [if_neg c, if_neg c, List.map_append]
    rfl
theorem nodup_putN (l : Nat) (v : β) (h : (tab.map (·.1)).Nodup) : ((putN tab l v).map (·.1)).Nodup := by
  rw [keys_putN]
  split
  · exact h
  · rename_i c
    rw [List.nodup_append]
    refine ⟨h, by simp, fun a ha b hb => ?_⟩
    rw [List.mem_singleton] at hb
    subst hb
    rintro rfl
    exact c ha
theorem len_putN (l : Nat) (v : β) : (putN tab l v).length ≤ tab.length + 1 := by
  unfold putN
  split
  · rw [List.length_map]; omega
  · rw [List.length_append]; exact Nat.le_refl _
theorem merge_KN : mergeD (tab.map fun p => (nk p.1, ev p.2)) (more.map fun p => (nk p.1, ev p.2)) = (mergeN tab more).map fun p => (nk p.1, ev p.2) := by
  induction more generalizing tab with
  | nil => rfl
  | cons m more ih =>
    show mergeD (putD _ (nk m.1) (ev m.2)) _ = _
    rw [put_KN, ih]
    rfl
theorem mergeN_new (h : (tab.map (·.1) ++ more.map (·.1)).Nodup) : mergeN tab more = tab ++ more := by
  induction more generalizing tab with
  | nil => rw [List.append_nil]; rfl
  | cons m more ih =>
    have hm : m.1 ∉ tab.map (·.1) := fun z => by
      rw [List.nodup_append] at h
      exact h.2.2 _ z _ List.mem_cons_self rfl
    show mergeN (putN tab m.1 m.2) more = _
    have e : putN tab m.1 m.2 = tab ++ [m] := by unfold putN; rw [if_neg hm]
    rw [e, ih, List.append_assoc]
    · rfl
    · rw [List.map_append, List.append_assoc]; exact h
theorem dDict_KM : dDict false [eL (eP eN ev) tab] = some (eK ev (mergeN [] tab)) := by
  have e : pairsBy pairK (tab.map (eP eN ev)) = some (tab.map fun p => ((.inl (p.1 : Int) : Key), ev p.2)) := by
    induction tab with
    | nil => rfl
    | cons p tab ih =>
      rw [List.map_cons, pairsBy, ih]
      rfl
  have e3 : dDict false [eL (eP eN ev) tab] = (pairsBy pairK (tab.map (eP eN ev))).map fun ps => D.dct false (mergeD [] (tagK ps)) := rfl
  rw [e3, e]
  have e2 : tagK (tab.map fun p => ((.inl (p.1 : Int) : Key), ev p.2)) = tab.map fun p => (nk p.1, ev p.2) := by unfold tagK; rw [List.map_map]; rfl
  show some (D.dct false (mergeD [] (tagK _))) = _
  rw [e2]
  exact congrArg (fun z => some (D.dct false z)) (merge_KN (tab := []))
theorem dDict_K (h : (tab.map (·.1)).Nodup) : dDict false [eL (eP eN ev) tab] = some (eK ev tab) := by
  rw [dDict_KM, mergeN_new (tab := []) (by simpa using h)]
  rfl
theorem hUpd_K (hz : tab.length + more.length ≤ sizeLine) : hUpd (eK ev tab) [eK ev more] = some (eK ev (mergeN tab more), .non) := by
  unfold eK hUpd
  simp only
  rw [if_pos (by rw [List.length_map, List.length_map]; exact hz), merge_KN]
theorem keysD_K : keysD (eK ev tab) = some (tab.map fun p => eN p.1) := by
  have c : (tab.map fun p => (nk p.1, ev p.2)).all (fun p => keyFit p.1) = true := by
    rw [List.all_map, List.all_eq_true]
    intro p _
    rfl
  show (if (tab.map fun p => (nk p.1, ev p.2)).all (fun p => keyFit p.1) = true then some ((tab.map fun p => (nk p.1, ev p.2)).map fun p => keyOf p.1) else none) = _
  rw [if_pos c, List.map_map]
  rfl
theorem mem_mergeN_keys {more : List (Nat × β)} : ∀ {tab : List (Nat × β)} (x : Nat), x ∈ (mergeN tab more).map (·.1) ↔ x ∈ tab.map (·.1) ∨ x ∈ more.map (·.1) := by
  induction more with
  | nil => intro tab x; simp [mergeN]
  | cons m more ih =>
    intro tab x
    show x ∈ (mergeN (putN tab m.1 m.2) more).map (·.1) ↔ _
    rw [ih, keys_putN, List.map_cons, List.mem_cons]
    split
    · rename_i c
      constructor
      · rintro (h | h)
        · exact .inl h
        · exact .inr (.inr h)
      · rintro (h | h | h)
        · exact .inl h
        · subst h; exact .inl c
        · exact .inr h
    · rw [List.mem_append, List.mem_singleton, or_assoc]
theorem len_mergeN : ∀ {more : List (Nat × β)} {tab : List (Nat × β)}, (mergeN tab more).length ≤ tab.length + more.length
  | [], tab => Nat.le_refl _
  | m :: more, tab => by
    have := len_mergeN (more := more) (tab := putN tab m.1 m.2)
    have := len_putN (tab := tab) m.1 m.2
    show (mergeN (putN tab m.1 m.2) more).length ≤ _
    rw [List.length_cons]
    omega
end
/-! ### sorted keys -/
def lexN : List Nat → List Nat → Bool
  | [], _ => true
  | _ :: _, [] => false
  | a :: as, b :: bs => if a < b then true else if b < a then false else lexN as bs
def ptN (l : List Nat) : PyData := .tuple (l.map fun n : Nat => .int (n : Int))
theorem py_T (l : List Nat) : D.py (eT eN l) = some (ptN l) := by
  have : pyAll (l.map eN) = some (l.map fun n : Nat => .int (n : Int)) := by
    induction l with
    | nil => simp [pyAll]
    | cons a l ih => simp [pyAll, ih, eN, D.py]
  simp [eT, D.py, this, ptN]
theorem pyD_T (l : List Nat) : pyD (eT eN l) = ptN l := by unfold pyD; rw [py_T]; rfl
theorem scD_keyN (l : List Nat) : (keyN l).map scD = l.map eN := by unfold keyN; rw [List.map_map]; rfl
theorem keys_T {β : Type} {ev : β → D} {tab : List (List Nat × β)} : ((tab.map fun p => (DKey.t (keyN p.1), ev p.2)).map fun p => keyOf p.1) = (tab.map (·.1)).map (eT eN) := by
  rw [List.map_map, List.map_map]
  refine List.map_congr_left fun p _ => ?_
  show D.tup ((keyN p.1).map scD) = _
  rw [scD_keyN]
  rfl
theorem pt_depth (l : List Nat) : (ptN l).depth ≤ 1 := by
  have : PyData.depthAll (l.map fun n : Nat => .int (n : Int)) = 0 := by
    induction l with
    | nil => simp [PyData.depthAll]
    | cons a l ih => simp [PyData.depthAll, ih, PyData.depth]
  simp [ptN, PyData.depth, this]
theorem pt_alike (a b : List Nat) : PySem.W.alike (ptN a) (ptN b) = true := by
  have : ∀ a b : List Nat, PySem.W.alikeAll (a.map fun n : Nat => .int (n : Int)) (b.map fun n : Nat => .int (n : Int)) = true := by
    intro a
    induction a with
    | nil => intro b; simp [PySem.W.alikeAll]
    | cons x a ih =>
      intro b
      cases b with
      | nil => simp [PySem.W.alikeAll]
      | cons y b => simp [PySem.W.alikeAll, PySem.W.alike, ih]
  simp [ptN, PySem.W.alike, this]
theorem sortK_T {β : Type} {ev : β → D} {tab : List (List Nat × β)} (h0 : ∀ p ∈ tab, p.1 ≠ [] ∧ p.1.length ≤ sizeLine) (hs : (tab.map (·.1)).Pairwise fun a b => PySem.W.dataLe false ptN a b = true) : dSortK [eD ev tab] = some (eL (eT eN) (tab.map (·.1))) := by
  unfold eD dSortK
  simp only
  have c : (tab.map fun p => (DKey.t (keyN p.1), ev p.2)).all (fun p => keyFit p.1) = true ∧ (∀ d ∈ ((tab.map fun p => (DKey.t (keyN p.1), ev p.2)).map fun p => keyOf p.1), (pyD d).depth ≤ 40) ∧ PySem.W.AllAlike (((tab.map fun p => (DKey.t (keyN p.1), ev p.2)).map fun p => keyOf p.1).map pyD) ∧ PySem.W.Sortable (((tab.map fun p => (DKey.t (keyN p.1), ev p.2)).map fun p => keyOf p.1).map pyD) := by
    rw [keys_T]
    refine ⟨?_, fun d hd => ?_, fun d hd d' hd' => ?_, .inl fun d hd => ?_⟩
    · rw [List.all_map, List.all_eq_true]
      intro p hp
      show decide ((keyN p.1).length ≤ sizeLine) = true
      rw [decide_eq_true_eq, keyN, List.length_map]
      exact (h0 p hp).2
    · obtain ⟨l, _, rfl⟩ := List.mem_map.mp hd
      rw [pyD_T]
      have := pt_depth l
      omega
    · obtain ⟨x, hx, rfl⟩ := List.mem_map.mp hd
      obtain ⟨y, hy, rfl⟩ := List.mem_map.mp hd'
      obtain ⟨n, _, rfl⟩ := List.mem_map.mp hx
      obtain ⟨m, _, rfl⟩ := List.mem_map.mp hy
      rw [pyD_T, pyD_T]
      exact pt_alike n m
    · obtain ⟨x, hx, rfl⟩ := List.mem_map.mp hd
      obtain ⟨n, hn, rfl⟩ := List.mem_map.mp hx
      obtain ⟨p, hp, rfl⟩ := List.mem_map.mp hn
      rw [pyD_T]
      cases e : p.1 with
      | nil => exact absurd e (h0 p hp).1
      | cons a l => exact ⟨.int a, _, rfl⟩
  rw [if_pos c, keys_T]
  refine congrArg (fun z => some (D.lst z)) ?_
  have q := List.map_mergeSort (r := fun a b : List Nat => PySem.W.dataLe false ptN a b) (s := PySem.W.dataLe false pyD) (f := eT eN) (l := tab.map (·.1)) fun a _ b _ => by
    show (!PySem.W.dataLt (ptN b) (ptN a)) = !PySem.W.dataLt (pyD (eT eN b)) (pyD (eT eN a))
    rw [pyD_T, pyD_T]
  rw [← q, List.mergeSort_of_pairwise hs]
end L2.EV

/-! EV, part V: dict(a tuple known as it lie), keys by value. -/
namespace L2.EV
open PySem PySem.Spec PyProof.Rows
def rDictPK : List V → Hp → VK → Prop := fun xs H Q => ∃ (a : Addr) (o : Obj) (as : List Addr) (kvs : List (Key × V)), xs = [.ref a] ∧ H a = some (.frz o (.tup (as.map V.ref))) ∧ o.dict = none ∧
  Paired (fun p (kv : Key × V) => H p = some (.tup [kV kv.1, kv.2])) as kvs ∧ ∀ p, H p = none → Q (.ref p) (upd H p (.dK (mergeK [] kvs)))
theorem cr_dictPK {X : Cx} (hc : X.calm = true) : CallR X (.type "dict") rDictPK := by
  intro pins s σ H xs us Q I r h
  obtain ⟨a, o, as, kvs, rfl, hH, hod, hp, q⟩ := h
  rw [Vals.ref1 r]
  obtain ⟨ho, hz, its, rv, o', ho', hcl, n, hdat⟩ := (show ObjOk X.prog X.w H s.heap a (.frz o (.tup (as.map V.ref))) from I.hok a _ hH)
  rw [ho] at ho'
  cases ho'
  have ei := refs_at rv
  subst ei
  rw [List.length_map] at hz
  obtain ⟨prs, rel, hl, hpr⟩ := pairs_of I (Paired.mapP hp fun _ _ q => (SqT.of q : SqT X.K H _ _))
  have hget : ∀ (j : Nat) (k : Key) (v : Value), prs[j]? = some (k, v) → ∃ u, as[j]? = some (as.getD j 0) ∧ IsTup s.heap (as.getD j 0) #[u, v] ∧ keyIs k u = true := fun j k v e => by
    obtain ⟨b, u, e1, e2, e3⟩ := hpr j (k, v) e
    have : as.getD j 0 = b := by rw [List.getD_eq_getElem?_getD, e1]; rfl
    rw [this]
    exact ⟨u, e1, e2, e3⟩
  -- the pairs as values
  have hps : ∃ ps : List (Value × Value), ps.length = prs.length ∧ ∀ (j : Nat) (u v : Value), ps[j]? = some (u, v) → ∃ k, prs[j]? = some (k, v) ∧ keyIs k u = true ∧ IsTup s.heap (as.getD j 0) #[u, v] ∧ as[j]? = some (as.getD j 0) := by
    have : ∀ m, m ≤ prs.length → ∃ ps : List (Value × Value), ps.length = m ∧ ∀ (j : Nat) (u v : Value), ps[j]? = some (u, v) → ∃ k, prs[j]? = some (k, v) ∧ keyIs k u = true ∧ IsTup s.heap (as.getD j 0) #[u, v] ∧ as[j]? = some (as.getD j 0) := by
      intro m
      induction m with
      | zero => exact fun _ => ⟨[], rfl, fun j u v e => by simp at e⟩
      | succ m ih =>
        intro hm
        obtain ⟨ps, h1, h2⟩ := ih (by omega)
        have e : prs[m]? = some (prs[m]'(by omega)) := List.getElem?_eq_getElem (by omega)
        generalize (prs[m]'(by omega)) = pr at e
        obtain ⟨k, v⟩ := pr
        obtain ⟨u, g1, g2, g3⟩ := hget m k v e
        refine ⟨ps ++ [(u, v)], by simp [h1], fun j u' v' e' => ?_⟩
        by_cases c : j < ps.length
        · rw [List.getElem?_append_left c] at e'
          exact h2 j u' v' e'
        · rw [List.getElem?_append_right (by omega)] at e'
          have hj : j - ps.length = 0 := by
            have := (List.getElem?_eq_some_iff.mp e').1
            simp at this
            omega
          rw [hj] at e'
          simp at e'
          obtain ⟨rfl, rfl⟩ := e'
          have : j = m := by omega
          subst this
          exact ⟨k, e, g3, g2, g1⟩
    exact this _ (Nat.le_refl _)
  obtain ⟨ps, hpl, hpg⟩ := hps
  have P := PairArg.tuple (prog := X.prog) (w := X.w) a (as.map Value.ref).toArray (fun j => as.getD j 0) ps
  refine PySem.call_dict_pairs (knd := mixKind X.prog X.w) (kvs := prs) P (I.ok.hd hc) ⟨⟨o, n, ho, hcl, hod, hdat⟩, by simp [hl, hpl], fun j k v hj => ?_⟩ ⟨by rw [hpl], fun i key v hi => ?_⟩ (by rw [hpl, hl]; exact hz) fun h' tk hd' k => ?_
  · obtain ⟨kk, _, _, g3, g4⟩ := hpg j k v hj
    exact ⟨by rw [List.getElem?_toArray, List.getElem?_map, g4]; rfl, .inl g3⟩
  · obtain ⟨kk, g1, g2, _, _⟩ := hpg i key v hi
    exact ⟨kk, g1, g2⟩
  · have hm : (s.heap.objs.size == sysModules) = false := beq_eq_false_iff_ne.mpr (Nat.ne_of_gt I.big)
    have k' : ∀ b ob, s.heap.get? b = some ob → h'.get? b = some ob := fun b ob e => k b ob (fun z => nomatch z) e
    have hlen : (mergeK [] kvs).length ≤ sizeLine := by
      refine Nat.le_trans (length_mergeK kvs []) ?_
      rw [List.length_nil, Nat.zero_add, rel.length, hl]
      exact hz
    exact ⟨.ref s.heap.objs.size, upd H s.heap.objs.size (.dK (mergeK [] kvs)), I.laid (t' := tk) k' (Nat.le_refl _) (show ObjOk X.prog X.w _ _ _ (.dK (mergeK [] kvs)) from ⟨hlen, hm, merged [] prs, KV.merge rel .nil, hd'⟩), rfl, q _ (I.hok.fresh (Nat.le_refl _))⟩
def dDictPK : List D → Option D
  | [.ptp xs] => dDict false [.lst xs]
  | _ => none
theorem cn_dictPK : CallN rDictPK dDictPK := by
  intro W H S vs ds d Q w a h k
  unfold dDictPK at h
  split at h
  · rename_i xs
    have h : (pairsBy pairK xs).map (fun ps => D.dct false (mergeD [] (tagK ps))) = some d := h
    cases e : pairsBy pairK xs with
    | none => rw [e] at h; cases h
    | some ps =>
      rw [e] at h; cases h
      obtain ⟨v, rfl, r⟩ := a.one
      rcases r with r | ⟨a, _, _, _, t⟩
      · cases r with
        | @ptp p o us _ hH hod n z r =>
          obtain ⟨as, kvs, h1, h2, h3⟩ := pairsK_rep r e
          rw [h1] at hH z
          refine ⟨p, o, as, kvs, rfl, hH, hod, h2, fun l hl => ?_⟩
          have hlen : (mergeK [] kvs).length ≤ sizeLine := by
            refine Nat.le_trans (length_mergeK kvs []) ?_
            rw [List.length_nil, Nat.zero_add, ← Paired.length h2]
            rw [List.length_map] at z
            exact z
          have t := top_dK w hl (RepK.merge h3 .nil) hlen
          exact k l _ hl t.1 t.2.1 t.2.2
      · exact t.elim
  · cases h
/-! ### sorted(a dict by numbers) -/
theorem sortK_N {β : Type} {ev : β → D} {tab : List (Nat × β)} : dSortK [eK ev tab] = some (eL eN ((tab.map (·.1)).mergeSort fun a b => decide (a ≤ b))) := by
  have ek : ((tab.map fun p => (nk p.1, ev p.2)).map fun p => keyOf p.1) = (tab.map (·.1)).map eN := by
    rw [List.map_map, List.map_map]
    rfl
  have c : (tab.map fun p => (nk p.1, ev p.2)).all (fun p => keyFit p.1) = true ∧ (∀ d ∈ ((tab.map fun p => (nk p.1, ev p.2)).map fun p => keyOf p.1), (pyD d).depth ≤ 40) ∧ PySem.W.AllAlike (((tab.map fun p => (nk p.1, ev p.2)).map fun p => keyOf p.1).map pyD) ∧ PySem.W.Sortable (((tab.map fun p => (nk p.1, ev p.2)).map fun p => keyOf p.1).map pyD) := by
    rw [ek]
    refine ⟨?_, fun d hd => ?_, fun d hd d' hd' => ?_, .inr fun d hd => ?_⟩
    · rw [List.all_map, List.all_eq_true]
      intro p hp
      rfl
    · obtain ⟨n, _, rfl⟩ := List.mem_map.mp hd
      simp [eN, D.py, pyD, PyData.depth]
    · obtain ⟨x, hx, rfl⟩ := List.mem_map.mp hd
      obtain ⟨y, hy, rfl⟩ := List.mem_map.mp hd'
      obtain ⟨n, _, rfl⟩ := List.mem_map.mp hx
      obtain ⟨m, _, rfl⟩ := List.mem_map.mp hy
      simp [eN, pyD, D.py, PySem.W.alike]
    · obtain ⟨x, hx, rfl⟩ := List.mem_map.mp hd
      obtain ⟨n, _, rfl⟩ := List.mem_map.mp hx
      simp [eN, pyD, D.py]
  have hs := sorted_ints (tab.map (·.1))
  have h0 : dSortK [eK ev tab] = some (.lst (((tab.map (·.1)).map eN).mergeSort (PySem.W.dataLe false pyD))) := by
    unfold eK dSortK
    simp only
    rw [if_pos c, ek]
  rw [h0]
  unfold dSorted eL at hs
  simp only at hs
  split at hs
  · exact hs
  · cases hs
end L2.EV

/-! EV, part W: t[::-1] of a tuple; dict comprehensions. -/
namespace L2.EV
open PySem PySem.Spec PyProof.Rows
section
variable {prog : Program} {w : World} {A : Around} {E : Value → Shared → Prop} {s : Shared}
theorem sliceApplied_rev {sl : Addr} {vl vu vs : Value} {n : Nat} {Q : Int × Int × Nat → Shared → Prop} (hs : s.heap.IsSliceOf sl vl vu vs) (pl : IsPart vl none) (pu : IsPart vu none) (ps : IsPart vs (some (-1)))
    (h : Q ((n : Int) - 1, -1, n) s) : wpAny (model prog w) A (Builtin.Slice.sliceApplied (.ref sl) (pure (n : Int))) Q E s := by
  obtain ⟨os, hos, hcs, hds⟩ := id hs
  unfold Builtin.Slice.sliceApplied Builtin.Slice.sliceFields
  refine wpAny_bind (wpAny_bind (wpAny_field hos hds (x := vl) rfl (wpAny_bind (wpAny_field hos hds (x := vu) rfl (wpAny_bind (wpAny_field hos hds (x := vs) rfl (wpAny_pure ?_)))))))
  refine wpAny_bind (HT.slicePart_ ps ?_)
  show wpAny _ _ (if ((-1 : Int) == 0) = true then _ else _) _ _ s
  rw [if_neg (by decide)]
  refine wpAny_bind (HT.slicePart_ pl (wpAny_bind (HT.slicePart_ pu (wpAny_bind (wpAny_pure ?_)))))
  show wpAny _ _ (match Builtin.Slice.sliceAdjust none none (-1) (n : Int) with | (lo, hi) => pure (lo, (-1 : Int), Builtin.Slice.slicePlaces lo hi (-1))) _ _ s
  have e1 : Builtin.Slice.sliceAdjust none none (-1) (n : Int) = ((n : Int) - 1, -1) := by
    unfold Builtin.Slice.sliceAdjust
    simp
  have e2 : Builtin.Slice.slicePlaces ((n : Int) - 1) (-1) (-1) = n := by
    unfold Builtin.Slice.slicePlaces
    simp
    split <;> omega
  rw [e1]
  show wpAny _ _ (pure ((n : Int) - 1, (-1 : Int), Builtin.Slice.slicePlaces ((n : Int) - 1) (-1) (-1))) _ _ s
  rw [e2]
  exact wpAny_pure h
theorem pick_rev (xs : Array Value) : ((List.range xs.size).filterMap fun (m : Nat) => xs[((xs.size : Int) - 1 + (m : Int) * (-1)).toNat]?).toArray = xs.toList.reverse.toArray := by
  refine congrArg List.toArray ?_
  refine List.ext_getElem? fun i => ?_
  have hm : ∀ m ∈ List.range xs.size, xs[((xs.size : Int) - 1 + (m : Int) * (-1)).toNat]? = some (xs.toList.reverse.getD m default) := fun m hm => by
    have hm := List.mem_range.mp hm
    have : ((xs.size : Int) - 1 + (m : Int) * (-1)).toNat = xs.size - 1 - m := by omega
    have h1 : xs.toList.reverse[m]? = xs.toList[xs.toList.length - 1 - m]? := List.getElem?_reverse (by rw [Array.length_toList]; exact hm)
    rw [this, List.getD_eq_getElem?_getD, h1, Array.length_toList, ← Array.getElem?_toList]
    cases e : xs.toList[xs.size - 1 - m]? with
    | none =>
      have := List.getElem?_eq_none_iff.mp e
      rw [Array.length_toList] at this
      omega
    | some v => rfl
  have e : ((List.range xs.size).filterMap fun (m : Nat) => xs[((xs.size : Int) - 1 + (m : Int) * (-1)).toNat]?) = (List.range xs.size).map fun m => xs.toList.reverse.getD m default := by
    clear i
    generalize List.range xs.size = l at hm
    induction l with
    | nil => rfl
    | cons a l ih =>
      rw [List.filterMap_cons, hm a List.mem_cons_self, List.map_cons]
      simp only
      rw [ih fun m h => hm m (List.mem_cons_of_mem _ h)]
  rw [e, List.getElem?_map]
  by_cases c : i < xs.size
  · rw [List.getElem?_range c]
    show some (xs.toList.reverse.getD i default) = _
    rw [List.getD_eq_getElem?_getD, List.getElem?_eq_getElem (by simpa using c)]
    rfl
  · rw [List.getElem?_eq_none (by simp; omega), List.getElem?_eq_none (by simp; omega)]
    rfl
theorem getItem_tuple_rev {t sl : Addr} {items : Array Value} {vl vu vs : Value} {Q : Value → Shared → Prop} (ht : IsTup s.heap t items) (hs : s.heap.IsSliceOf sl vl vu vs) (pl : IsPart vl none) (pu : IsPart vu none) (ps : IsPart vs (some (-1)))
    (h : Q (.ref s.heap.objs.size) { s with heap := s.heap.push { cls := .type "tuple", data := .seq items.toList.reverse.toArray } })
    (hsz : items.size ≤ sizeLine) : wpAny (model prog w) A (getItem (.ref t) (.ref sl)) Q E s := by
  have htake : sizeOk (.seq items.toList.reverse.toArray) := by
    show items.toList.reverse.toArray.size ≤ sizeLine
    rw [List.size_toArray, List.length_reverse, Array.length_toList]
    omega
  obtain ⟨os, hos, hcs, hds⟩ := id hs
  have hTs : s.TypeIs (.ref sl) "slice" := ⟨os, hos, hcs⟩
  unfold getItem
  try with_reducible refine wpAny_holding ?_
  first | refine wpAny_bind (wpAny_pure ?_) | skip
  refine wpAny_bind (wpAny_sequenceKey ht.typeIs (by decide) ?_)
  refine wpAny_bind (wpAny_callSpecial?_slot (name := Str.ofString "__getitem__") ht.typeIs PyProof.Rows.slot_tuple_getitem
    (wpAny_call_entry PyProof.Rows.slot_tuple_getitem ht.typeIs entry_tuple_getitem ?_ (args_tuple_getitem _ _)))
  show wpAny _ _ (Builtin.Tuple.tupleItemsOf (.ref t) >>= _) _ _ s
  refine wpAny_bind (PyProof.Rows.tupleItemsOf_ ht ?_)
  refine wpAny_bind (wpAny_typeOf hTs ?_)
  rw [if_pos (by decide)]
  refine wpAny_bind (sliceApplied_rev hs pl pu ps ?_)
  have hno : ¬ ((((items.size : Int) - 1) == 0 && (-1 : Int) == 1 && items.size == items.size) = true) := by
    have : ((-1 : Int) == 1) = false := by decide
    rw [this, Bool.and_false, Bool.false_and]
    exact Bool.false_ne_true
  show wpAny _ _ (if (((items.size : Int) - 1) == 0 && (-1 : Int) == 1 && items.size == items.size) = true then _ else _) _ _ s
  rw [if_neg hno, pick_rev]
  first
    | exact wpAny_bind (m := Builtin.Tuple.tupleExact _) (wpAny_newObj_type (wpAny_pure ⟨_, rfl, wpAny_pure h⟩) htake)
    | exact wpAny_bind (m := Builtin.Tuple.tupleExact _) (wpAny_newObj_type (wpAny_bind (wpAny_pure (wpAny_pure ⟨_, rfl, wpAny_pure h⟩))) htake)
    | exact wpAny_bind (wpAny_bind (m := Builtin.Tuple.tupleExact _) (wpAny_newObj_type (wpAny_pure (wpAny_pure ⟨_, rfl, wpAny_pure h⟩)) htake))
    | exact wpAny_bind (wpAny_bind (m := Builtin.Tuple.tupleExact _) (wpAny_newObj_type (wpAny_pure ⟨_, rfl, wpAny_pure h⟩) htake))
end
def tRevT (K : PySem.W.Frag) (te : TE) : TE := fun σ H Q => te σ H fun x H1 => ∃ a xs, x = .ref a ∧ SqT K H1 a xs ∧ ∀ p, H1 p = none → Q (.ref p) (upd H1 p (.tup xs.reverse))
theorem pe_revT {X : Cx} {e : Expr} {te : TE} {k : Nat} {p1 p2 p3 pos : Pos} (he : PE X e te) : PE X (.Subscript e (.Slice none none (some (.UnaryOp .USub (.Constant (.int 1) k p1) p2)) p3) pos) (tRevT X.K te) := by
  refine ⟨fun pins s σ H Q I h => ?_⟩
  refine Subscript_ (thn (he.run pins s σ H _ I h) fun v s1 ⟨x, H1, I1, r1, q1⟩ => ?_)
  obtain ⟨a, xs, ex, hx, q⟩ := q1
  subst ex
  cases r1
  have hst : PO X (some (.UnaryOp .USub (.Constant (.int 1) k p1) p2)) (tPart (tUn (rU fun i => .int (-i)) (tC (.int 1)))) := po_some (pe_un un_neg pe_int)
  refine wpAny_Slice (thn (po_none.run pins s1 σ H1 (fun o H2 => o = none ∧ H2 = H1) I1 ⟨rfl, rfl⟩) fun vl s2 ⟨l, H2, I2, pl, el, e2⟩ => ?_)
  subst el e2
  refine thn (po_none.run pins s2 σ H2 (fun o H3 => o = none ∧ H3 = H2) I2 ⟨rfl, rfl⟩) fun vu s3 ⟨u, H3, I3, pu, eu, e3⟩ => ?_
  subst eu e3
  refine thn (hst.run pins s3 σ H3 (fun o H4 => o = some (-1) ∧ H4 = H3) I3 ⟨1, rfl, -1, rfl, rfl, rfl⟩) fun vs s4 ⟨o, H4, I4, ps, eo, e4⟩ => ?_
  subst eo e4
  have I5 : Inv X pins σ H4 { s4 with heap := s4.heap.push { cls := .type "slice", data := .fields #[vl, vu, vs] } } := I4.kept (t' := s4.toks) fun b ob q => Heap.get?_push_of_some _ q
  obtain ⟨its, r, ht, hz⟩ := I5.tuple hx
  have hlen := r.length
  show wpAny (model X.prog X.w) X.A (subscriptTail e (.Slice none none (some (.UnaryOp .USub (.Constant (.int 1) k p1) p2)) p3) (.ref a) (.ref s4.heap.objs.size)) (EP X pins σ Q) X.xe { s4 with heap := s4.heap.push { cls := .type "slice", data := .fields #[vl, vu, vs] } }
  refine tail_any (ops := [.ref a, .ref s4.heap.objs.size]) ht.typeIs PyProof.Rows.slot_tuple_getitem.lookup ?_ (by with_unfolding_all rfl)
  refine getItem_tuple_rev ht (Heap.IsSliceOf.new _ vl vu vs) pl pu ps ?_ (by rw [List.size_toArray]; omega)
  refine ⟨.ref _, _, I5.laid (t' := s4.toks) (o := .tup xs.reverse) (fun b ob q => Heap.get?_push_of_some _ q) (Nat.le_refl _) ?_, rfl, q _ (I5.hok.fresh (Nat.le_refl _))⟩
  exact ⟨by rw [List.length_reverse]; exact hz, _, r.reverse, IsTup.new _ _⟩
def dRevA : D → Option D
  | .lst xs => some (.lst xs.reverse)
  | .tup xs => some (.tup xs.reverse)
  | _ => none
def eRevA (f : Ev → M D) : Ev → M D := fun ρ => f ρ >>= fun d => M.of (dRevA d)
theorem ee_revA {X : Cx} {e : Expr} {f : Ev → M D} (he : EI X e f) {k0 : Nat} {p1 p2 p3 p4 : Pos} : EE X (.Subscript e (.Slice none none (some (.UnaryOp .USub (.Constant (.int 1) k0 p1) p2)) p3) p4) (eRevA f) := by
  obtain ⟨t, p, q⟩ := he.ex
  refine ⟨_, PE.or (pe_revL p) (pe_revT p), fun W σ H ρ S d S' Q w er hf k => ?_⟩
  obtain ⟨d0, S1, e1, hf⟩ := M.bind_eq hf
  obtain ⟨e4, rfl⟩ := M.of_eq hf
  cases d0 with
  | lst xs =>
    cases e4
    refine .inl (q W σ H ρ S _ S1 _ w er e1 fun v H1 k1 w1 r1 => ?_)
    obtain ⟨a, vs, rfl, hH, z, r, _⟩ := r1.lst
    exact ⟨a, vs, rfl, .of hH, fun p hp => k _ _ (k1.trans (keep_laid hp)) (w1.laid hp) (rep_newL w1 r.reverse (by rw [List.length_reverse]; exact z) hp)⟩
  | tup xs =>
    cases e4
    refine .inr (q W σ H ρ S _ S1 _ w er e1 fun v H1 k1 w1 r1 => ?_)
    obtain ⟨a, vs, rfl, hH, z, r⟩ := r1.tup
    exact ⟨a, vs, rfl, .of hH, fun p hp => k _ _ (k1.trans (keep_laid hp)) (w1.laid hp) (rep_newT w1 r.reverse (by rw [List.length_reverse]; exact z) hp)⟩
  | _ => cases e4

/-! ### dict comprehensions -/
def compP (g : D → Ev → Option Ev) (ft : Ev → M Bool) (fk fv : Ev → M D) : List D → Ev → M (List (Key × D))
  | [], _ => pure []
  | d :: ds, ρ => M.of (g d ρ) >>= fun ρ1 => ft ρ1 >>= fun b => if b = true then fk ρ1 >>= fun y => M.of (scKey y) >>= fun k => fv ρ1 >>= fun v => compP g ft fk fv ds ρ >>= fun r => pure ((k, v) :: r) else compP g ft fk fv ds ρ
def eDc (vs : List Nat) (fi : Ev → M (List D)) (g : D → Ev → Option Ev) (ft : Ev → M Bool) (fk fv : Ev → M D) : Ev → M D := fun ρ => fi ρ >>= fun ds => compP g ft fk fv ds (wipeE ρ vs) >>= fun ps => pure (.dct false (mergeD [] (tagK ps)))
section
variable {J : It} {n : Nat} {G : Hp → Prop} {Y : Nat → Hp → V → Hp → Prop}
theorem dc_it (w : Walk J n G Y) {g : TG} {tt : TT} {tk tv : TE} {vs : List Nat} {σ : St} {H1 : Hp} {D : Addr} {Qd : Hp → Prop} (Pv : Nat → Hp → Prop) (h0 : Pv 0 (upd H1 D (.dK []))) (hG : ∀ i H, i ≤ n → Pv i H → G H)
    (hs : ∀ i x H H', i < n → Pv i H → Y i H x H' → g x (wipe σ vs) H' fun σ2 H2 => wipe σ2 vs = wipe σ vs ∧ tt σ2 H2 fun b H3 =>
      if b = true then tk σ2 H3 fun y H4 => tv σ2 H4 fun z H5 => ∃ kvs k, y = kV k ∧ H5 D = some (.dK kvs) ∧ kvs.length < sizeLine ∧ Pv (i + 1) (upd H5 D (.dK (putK kvs k z))) else Pv (i + 1) H3) (hd : ∀ H, Pv n H → Qd H) :
    ∃ W : Nat → Nat → Hp → Prop, (∃ m, W 0 m (upd H1 D (.dK []))) ∧ ∀ i m H, W i m H →
      (J.stop i H ∧ Qd H) ∨ (J.go i H ∧ ∃ Nx : Hp → Prop, (∀ H', Nx H' → ∃ m', m' < m ∧ W (i + 1) m' H') ∧ ∀ x H', J.yld i H x H' → g x (wipe σ vs) H' fun σ2 H2 => wipe σ2 vs = wipe σ vs ∧ tt σ2 H2 fun b H3 =>
        if b = true then tk σ2 H3 fun y H4 => tv σ2 H4 fun z H5 => ∃ kvs k, y = kV k ∧ H5 D = some (.dK kvs) ∧ kvs.length < sizeLine ∧ Nx (upd H5 D (.dK (putK kvs k z))) else Nx H3) := by
  refine ⟨fun i m H => m = n - i ∧ i ≤ n ∧ Pv i H, ⟨n, by simp, Nat.zero_le _, h0⟩, ?_⟩
  rintro i m H ⟨rfl, hi, p⟩
  have q := hG i H hi p
  by_cases hlt : i < n
  · refine .inr ⟨w.goes i H hlt q, Pv (i + 1), fun H' p' => ⟨n - (i + 1), by omega, rfl, hlt, p'⟩, fun x H' y => hs i x H H' hlt p (w.yields i H x H' hlt q y)⟩
  · have e : i = n := by omega
    subst e
    exact .inl ⟨w.stops H q, hd H p⟩
end
section
variable {X : Cx} {kx vx tg iter : Expr} {ifs : List Expr} {scope : Scope} {own : List (Str × Nat)} {pos : Pos} {fi : Ev → M (List D)} {g : D → Ev → Option Ev} {ft : Ev → M Bool} {fk fv : Ev → M D} {wi : TI} {tgt : TG} {tt : TT} {tk tv : TE} {vs : List Nat}
theorem TNv.dc (hi : TIc wi fi) (hg : TGv vs tgt g) (ht : TBv tt ft) (hk : TEv tk fk) (he : TEv tv fv) : TNv (tDc wi tgt tt tk tv vs) (eDc vs fi g ft fk fv) := by
  intro W σ H ρ S d S' Q w er hf k
  obtain ⟨ds, S1, h1, hf⟩ := M.bind_eq hf
  obtain ⟨ys, S2, h2, hf⟩ := M.bind_eq hf
  obtain ⟨rfl, rfl⟩ := M.pure_eq hf
  refine hi W σ H ρ S ds S1 _ w er h1 fun J H1 k1 w1 hz y => ?_
  intro D hD
  have hD0 : H D = none := keep_none w1 k1 hD
  have wD : WRel (W.add D) (upd H1 D (.dK [])) S1 := w1.own hD trivial
  have erD : EnvRel (W.add D) (upd H1 D (.dK [])) σ ρ := (er.keep w k1).step w1 (KeepC.add (keep_laid hD) hD)
  refine dc_it (Qd := fun H => Q (.ref D) H) y.walk (fun i H2 => ∃ (S3 : Src) (us : List (Key × V)) (zs : List (DKey × EV.D)) (rest : List (Key × EV.D)), KeepC W H1 (W.add D) H2 ∧ WRel (W.add D) H2 S3 ∧ H2 D = some (.dK us) ∧ us.length ≤ i ∧ RepK (W.add D).no (W.add D).sa H2 us zs ∧
    compP g ft fk fv (ds.drop i) (wipeE ρ vs) S3 = some (rest, S2) ∧ mergeD zs (tagK rest) = mergeD [] (tagK ys)) ⟨S1, [], [], ys, .add (keep_laid hD) hD, wD, upd_same, Nat.le_refl _, .nil, h2, rfl⟩ ?_ ?_ ?_
  · rintro i H2 hi ⟨S3, us, zs, rest, kc, w2, _⟩
    exact ⟨W.add D, S3, kc, w2⟩
  · rintro i x H2 H3 hi ⟨S3, us, zs, rest, kc, w2, hH, hl, ra, hr, hy⟩ hY
    have hdd : ds.drop i = ds[i] :: ds.drop (i + 1) := List.drop_eq_getElem_cons hi
    rw [hdd] at hr
    obtain ⟨ρ1, S4, e1, hr⟩ := M.bind_eq hr
    obtain ⟨e0, rfl⟩ := M.of_eq e1
    obtain ⟨b, S5, e2, hr⟩ := M.bind_eq hr
    obtain ⟨k3, w3, r3⟩ := hY ds[i] (W.add D) S3 (List.getElem?_eq_getElem hi) kc w2
    have er2 : EnvRel (W.add D) H3 (wipe σ vs) (wipeE ρ vs) := ((er.keep w k1).step w1 kc).wipe vs |>.keep w2 k3
    have nD := w2.ne D (.inr (.inr rfl))
    have kc3 : KeepC W H1 (W.add D) H3 := kc.trans w2 w1 (.of k3)
    refine hg (W.add D) H3 S3 x ds[i] (wipe σ vs) (wipeE ρ vs) ρ1 _ w3 er2 r3 e0 fun σ2 er3 hw => ⟨hw.trans (wipe_wipe σ vs), ?_⟩
    refine ht (W.add D) σ2 H3 ρ1 S3 b S5 _ w3 er3 e2 fun H4 k4 w4 => ?_
    have kc4 : KeepC W H1 (W.add D) H4 := kc3.trans w3 w1 (.of k4)
    cases b with
    | false =>
      rw [if_neg Bool.false_ne_true] at hr ⊢
      exact ⟨S5, us, zs, rest, kc4, w4, k4 D _ nD.1 nD.2 (k3 D _ nD.1 nD.2 hH), by omega, (ra.keep w2 k3).keep w3 k4, hr, hy⟩
    | true =>
      rw [if_pos rfl] at hr ⊢
      obtain ⟨yk, S6, e3, hr⟩ := M.bind_eq hr
      obtain ⟨kk, S6', e3', hr⟩ := M.bind_eq hr
      obtain ⟨esc, rfl⟩ := M.of_eq e3'
      obtain ⟨z, S7, e4, hr⟩ := M.bind_eq hr
      obtain ⟨rest', S8, e5, hr⟩ := M.bind_eq hr
      obtain ⟨rfl, rfl⟩ := M.pure_eq hr
      refine hk (W.add D) σ2 H4 ρ1 S5 yk S6 _ w4 (er3.keep w3 k4) e3 fun v H5 k5 w5 r5 => ?_
      have ekv := scKey_rep r5 esc
      refine he (W.add D) σ2 H5 ρ1 S6 z S7 _ w5 ((er3.keep w3 k4).keep w4 k5) e4 fun u H6 k6 w6 r6 => ?_
      have hD6 : H6 D = some (.dK us) := k6 D _ nD.1 nD.2 (k5 D _ nD.1 nD.2 (k4 D _ nD.1 nD.2 (k3 D _ nD.1 nD.2 hH)))
      have kc6 : KeepC W H1 (W.add D) H6 := (kc4.trans w4 w1 (.of k5)).trans w5 w1 (.of k6)
      have ra6 := (((ra.keep w2 k3).keep w3 k4).keep w4 k5).keep w5 k6
      have ks : KeepS (W.add D) H6 (W.add D) (upd H6 D (.dK (putK us kk u))) := .wrote (.inr rfl)
      have hlp := length_putK us kk u
      refine ⟨us, kk, ekv, hD6, by omega, S7, putK us kk u, putD zs (.k kk) z, rest', ⟨rfl, rfl, rfl, fun _ h => .inl h, kc6.ln, fun a o n1 n2 h => ?_⟩, w6.wrote (.inr rfl) trivial, upd_same, by omega, (ra6.put r6).step w6 ks, e5, hy⟩
      have : a ≠ D := by rintro rfl; rw [hD] at h; cases h
      rw [upd_ne this]
      exact kc6.k a o n1 n2 h
  · rintro H2 ⟨S3, us, zs, rest, kc, w2, hH, hl, ra, hr, hy⟩
    rw [List.drop_length] at hr
    obtain ⟨rfl, rfl⟩ := M.pure_eq hr
    have hy : zs = mergeD [] (tagK ys) := hy
    subst hy
    exact k D H2 hD0 (k1.trans kc.k) w2 ⟨us, .inl hH, by omega, ra⟩
theorem en_dc (hN : X.N.Nodup) (hc : X.calm = true) (ok : blkC X.N X.env.scope scope own = true) (hi : ItC X tg iter fi)
    (hg : ∀ (s : Shared) (H : Hp) (C : Addr) (cl : List (Str × Addr)) (fp : List Addr), EG (X.blk s H scope (compEnvC scope cl C X.env) fp) tg (own.map (·.2)) g)
    (ht : ∀ (s : Shared) (H : Hp) (C : Addr) (cl : List (Str × Addr)) (fp : List Addr), ETs (X.blk s H scope (compEnvC scope cl C X.env) fp) ifs ft)
    (hk : ∀ (s : Shared) (H : Hp) (C : Addr) (cl : List (Str × Addr)) (fp : List Addr), EE (X.blk s H scope (compEnvC scope cl C X.env) fp) kx fk)
    (he : ∀ (s : Shared) (H : Hp) (C : Addr) (cl : List (Str × Addr)) (fp : List Addr), EE (X.blk s H scope (compEnvC scope cl C X.env) fp) vx fv)
    (hs : ∀ x, foldedSetIterable iter X.env x = pure x := by intro _; rfl) : EN X (.DictComp kx vx [⟨tg, iter, ifs, 0⟩] scope pos) (eDc (own.map (·.2)) fi g ft fk fv) := by
  obtain ⟨wi, p1, q1⟩ := hi.ex
  exact ⟨_, pe_dc hc hN p1 (blkOk_by ok) (fun s H C cl fp => (hg s H C cl fp).max) (fun s H C cl fp => (ht s H C cl fp).max) (fun s H C cl fp => (hk s H C cl fp).max) (fun s H C cl fp => (he s H C cl fp).max) hs, TNv.dc q1 (tG_v _ _) (tT_v _) (tE_v _) (tE_v _)⟩
end
/-- evaluation: a dict comprehension over numbers -/
theorem compP_pure {α : Type} {xs : List α} (e : α → D) (t : α → Bool) (kk : α → Nat) {β : Type} (ev : β → D) (v : α → β) {g : D → Ev → Option Ev} {ft : Ev → M Bool} {fk fv : Ev → M D} {ρ : Ev}
    (hs : ∀ x ∈ xs, ∃ ρ1, g (e x) ρ = some ρ1 ∧ ft ρ1 = pure (t x) ∧ (t x = true → fk ρ1 = pure (eN (kk x)) ∧ fv ρ1 = pure (ev (v x)))) : compP g ft fk fv (xs.map e) ρ = pure ((xs.filter t).map fun x => ((.inl (kk x : Int) : Key), ev (v x))) := by
  induction xs with
  | nil => rfl
  | cons x xs ih =>
    obtain ⟨ρ1, h1, h2, h3⟩ := hs x List.mem_cons_self
    rw [List.map_cons, compP, h1, M.of_some, pure_bind, h2, pure_bind, ih fun y hy => hs y (List.mem_cons_of_mem _ hy)]
    cases q : t x with
    | true =>
      rw [if_pos rfl, (h3 q).1, pure_bind, (h3 q).2, List.filter_cons_of_pos q]
      rfl
    | false => rw [if_neg Bool.false_ne_true, List.filter_cons_of_neg (by simp [q])]
theorem dct_pairs {α β : Type} (ev : β → D) (xs : List α) (kk : α → Nat) (v : α → β) : D.dct false (mergeD [] (tagK (xs.map fun x => ((.inl (kk x : Int) : Key), ev (v x))))) = eK ev (mergeN [] (xs.map fun x => (kk x, v x))) := by
  unfold eK tagK
  rw [← merge_KN (tab := [])]
  rw [List.map_map, List.map_map]
  rfl
end L2.EV

/-! EV, part X: isinstance; enumerate and zip of lists and of tuples; starred items. -/
namespace L2.EV
open PySem PySem.Spec PyProof.Rows

/-! ### isinstance -/
def tyName : D → Option String
  | .non => some "NoneType"
  | .bl _ => some "bool"
  | .int _ => some "int"
  | .str _ => some "str"
  | .tup _ => some "tuple"
  | .ptp _ => some "tuple"
  | .lst _ => some "list"
  | _ => none
def isaT (t T : String) : Bool := t == T || (t == "bool" && T == "int")
def tyNames : List String := ["NoneType", "bool", "int", "str", "tuple", "list"]
/-- T is one of the classes that are asked for -/
def Asked (T : String) : Prop := ∀ t ∈ tyNames, kitB t T = some (isaT t T)
theorem asked_int : Asked "int" := by unfold Asked; decide +kernel
theorem asked_bool : Asked "bool" := by unfold Asked; decide +kernel
theorem asked_str : Asked "str" := by unfold Asked; decide +kernel
theorem asked_tuple : Asked "tuple" := by unfold Asked; decide +kernel
theorem asked_list : Asked "list" := by unfold Asked; decide +kernel
def eIsi (T : String) (f : Ev → M D) : Ev → M D := fun ρ => f ρ >>= fun d => M.of ((tyName d).map fun t => .bl (isaT t T))
theorem rep_ty {K : PySem.W.Frag} {W : Wd} {H : Hp} {S : Src} {v : V} {d : D} {t : String} (w : WRel W H S) (r : RepI W H v d) (h : tyName d = some t) : TyX K H v (.type t) ∧ t ∈ tyNames := by
  cases d with
  | non => cases h; rw [r.non]; exact ⟨.base .non, by decide⟩
  | bl b => cases h; rw [r.bl]; exact ⟨.base (.bl b), by decide⟩
  | int i => cases h; rw [r.int]; exact ⟨.base (.int i), by decide⟩
  | str x => cases h; rw [r.str]; exact ⟨.base (.str x), by decide⟩
  | tup ds => cases h; obtain ⟨p, vs, rfl, hH, _⟩ := r.tup; exact ⟨.base (.tup hH), by decide⟩
  | lst ds => cases h; obtain ⟨p, vs, rfl, hH, _⟩ := r.lst; exact ⟨.base (.lst hH), by decide⟩
  | ptp ds =>
    cases h
    rcases r with r | ⟨a, _, _, _, t⟩
    · cases r with
      | ptp h1 _ _ _ _ => exact ⟨.fTuple h1, by decide⟩
    · exact t.elim
  | _ => cases h
section
variable {X : Cx} {e : Expr} {f : Ev → M D} {p p2 pos : Pos}
theorem ee_isi {T : String} {x : Str} (hT : bootBuiltins x = some (.type T)) (aT : Asked T) (hm : X.mg "isinstance" = none) (hmT : X.mg x = none) (ha : EI X e f) (hg : Gl X "isinstance" := by rfl) (hgT : Gl X x := by rfl)
    (hn : x ≠ "__name__" := by decide) (hd : (x == ("__debug__" : Str)) = false := by decide)
    (hs2 : starEach [.Name x p2] X.env = (false, eval (.Name x p2) X.env) :: starEach [] X.env := by rfl) (hs : starEach [e, .Name x p2] X.env = (false, eval e X.env) :: starEach [.Name x p2] X.env := by rfl)
    (hpl : (backTo pos (starEach [.Name x p2] X.env)).any (·.1) = false := by rfl) : EE X (.Call (.Name "isinstance" p) [e, .Name x p2] [] pos) (eIsi T f) := by
  obtain ⟨t, p1, q1⟩ := ha.ex
  refine ⟨_, pe_callB call_isi hg hm boot_isinstance (pa_cons p1 (pa_cons (pe_bltn (v := .ty T) hgT hmT hT rfl hn hd) pa_nil hs2) hs) (by decide) (by decide) hs hpl, fun W σ H ρ S d S' Q w er hf k => ?_⟩
  obtain ⟨d1, S1, h1, hf⟩ := M.bind_eq hf
  obtain ⟨h2, rfl⟩ := M.of_eq hf
  obtain ⟨tn, h3, rfl⟩ := Option.map_eq_some_iff.mp h2
  refine q1 W σ H ρ S d1 S1 _ w er h1 fun v H1 k1 w1 r1 => ?_
  obtain ⟨ty, mem⟩ := rep_ty (K := X.K) w1 r1 h3
  exact ⟨v, .ty T, .type tn, .type T, _, rfl, .ty T, ty, kit_ty (aT tn mem), k _ _ k1 w1 (.bl _)⟩
end

/-! ### enumerate, zip -/
def enumD (ds : List D) : List D := ds.mapIdx fun i d => .tup [.int (i : Nat), d]
def zipD (ds es : List D) : List D := List.zipWith (fun x y => .tup [x, y]) ds es
theorem enumD_len (ds : List D) : (enumD ds).length = ds.length := by unfold enumD; rw [List.length_mapIdx]
theorem enumD_get {ds : List D} {i : Nat} {d : D} (h : (enumD ds)[i]? = some d) : ∃ x, ds[i]? = some x ∧ d = .tup [.int (i : Nat), x] := by
  unfold enumD at h
  rw [List.getElem?_mapIdx] at h
  obtain ⟨x, h1, rfl⟩ := Option.map_eq_some_iff.mp h
  exact ⟨x, h1, rfl⟩
theorem zipD_get {ds es : List D} {i : Nat} {d : D} (h : (zipD ds es)[i]? = some d) : ∃ x y, ds[i]? = some x ∧ es[i]? = some y ∧ d = .tup [x, y] := by
  unfold zipD at h
  rw [List.getElem?_zipWith] at h
  split at h
  · rename_i x y h1 h2
    cases h
    exact ⟨x, y, h1, h2, rfl⟩
  · cases h
theorem zipD_len (ds es : List D) : (zipD ds es).length = min ds.length es.length := by unfold zipD; rw [List.length_zipWith]
def iEnumD (f : Ev → M D) : Ev → M (List D) := fun ρ => f ρ >>= fun d => M.of (match d with
  | .lst ds => some (enumD ds)
  | _ => none)
def iZipD (f g : Ev → M D) : Ev → M (List D) := fun ρ => f ρ >>= fun d => g ρ >>= fun e => M.of (match d, e with
  | .lst ds, .lst es => some (zipD ds es)
  | .tup ds, .tup es => some (zipD ds es)
  | _, _ => none)
section
variable {K : PySem.W.Frag} {p a b : Addr} {vs us : List V} {ds es : List D} {R : Wd → Hp → Prop}
theorem pair_yld {W : Wd} {H : Hp} {S : Src} {T : Addr} {x y : V} {dx dy : D} (w : WRel W H S) (hT : H T = none) (rx : Rep W.no W.sa H x dx) (ry : Rep W.no W.sa H y dy) :
    Keep W H (upd H T (.tup [x, y])) ∧ WRel W (upd H T (.tup [x, y])) S ∧ Rep W.no W.sa (upd H T (.tup [x, y])) (.ref T) (.tup [dx, dy]) :=
  ⟨keep_laid hT, w.laid hT, rep_newT w (.cons rx (.cons ry .nil)) (by show 2 ≤ sizeLine; decide) hT⟩
theorem yields_enum (h : ∀ W2 H2 S2, R W2 H2 → WRel W2 H2 S2 → H2 p = some (.lst vs) ∧ RepAll W2.no W2.sa H2 vs ds) : Yields R (Ite K p) (enumD ds) where
  go := fun i W H S hi r w => by
    obtain ⟨h1, h2⟩ := h W H S r w
    have hl : i < vs.length := by rw [h2.length, ← enumD_len]; exact hi
    exact ⟨vs, vs[i], .of h1, by simp [hl]⟩
  stop := fun W H S r w => by
    obtain ⟨h1, h2⟩ := h W H S r w
    exact ⟨vs, .of h1, by rw [enumD_len]; exact Nat.le_of_eq h2.length⟩
  yld := fun i d W H S x H' e r w y => by
    obtain ⟨h1, h2⟩ := h W H S r w
    obtain ⟨d0, e0, rfl⟩ := enumD_get e
    obtain ⟨T, x0, rfl, hT, rfl, f⟩ := y
    obtain ⟨v, e1, e2⟩ := h2.get e0
    have e3 := f vs (.of h1)
    rw [e1] at e3; cases e3
    exact pair_yld w hT (.int _) e2
theorem yields_zipL (h : ∀ W2 H2 S2, R W2 H2 → WRel W2 H2 S2 → (H2 a = some (.lst vs) ∧ RepAll W2.no W2.sa H2 vs ds) ∧ H2 b = some (.lst us) ∧ RepAll W2.no W2.sa H2 us es) : Yields R (Itz K a b) (zipD ds es) where
  go := fun i W H S hi r w => by
    obtain ⟨⟨h1, h2⟩, h3, h4⟩ := h W H S r w
    rw [zipD_len] at hi
    have hl : i < vs.length := by rw [h2.length]; omega
    have hm : i < us.length := by rw [h4.length]; omega
    exact ⟨vs, us, vs[i], us[i], .of h1, .of h3, by simp [hl], by simp [hm]⟩
  stop := fun W H S r w => by
    obtain ⟨⟨h1, h2⟩, h3, h4⟩ := h W H S r w
    refine ⟨vs, us, .of h1, .of h3, ?_⟩
    rw [zipD_len, h2.length, h4.length]
    omega
  yld := fun i d W H S x H' e r w y => by
    obtain ⟨⟨h1, h2⟩, h3, h4⟩ := h W H S r w
    obtain ⟨d0, d1, e0, e1, rfl⟩ := zipD_get e
    obtain ⟨T, x0, y0, rfl, hT, rfl, f, g⟩ := y
    obtain ⟨v, q1, q2⟩ := h2.get e0
    obtain ⟨u, q3, q4⟩ := h4.get e1
    have e3 := f vs (.of h1)
    rw [q1] at e3; cases e3
    have e4 := g us (.of h3)
    rw [q3] at e4; cases e4
    exact pair_yld w hT q2 q4
theorem yields_zipT (h : ∀ W2 H2 S2, R W2 H2 → WRel W2 H2 S2 → (H2 a = some (.tup vs) ∧ RepAll W2.no W2.sa H2 vs ds) ∧ H2 b = some (.tup us) ∧ RepAll W2.no W2.sa H2 us es) : Yields R (RZ.ItzT K a b) (zipD ds es) where
  go := fun i W H S hi r w => by
    obtain ⟨⟨h1, h2⟩, h3, h4⟩ := h W H S r w
    rw [zipD_len] at hi
    have hl : i < vs.length := by rw [h2.length]; omega
    have hm : i < us.length := by rw [h4.length]; omega
    exact ⟨vs, us, vs[i], us[i], .of h1, .of h3, by simp [hl], by simp [hm]⟩
  stop := fun W H S r w => by
    obtain ⟨⟨h1, h2⟩, h3, h4⟩ := h W H S r w
    refine ⟨vs, us, .of h1, .of h3, ?_⟩
    rw [zipD_len, h2.length, h4.length]
    omega
  yld := fun i d W H S x H' e r w y => by
    obtain ⟨⟨h1, h2⟩, h3, h4⟩ := h W H S r w
    obtain ⟨d0, d1, e0, e1, rfl⟩ := zipD_get e
    obtain ⟨T, x0, y0, rfl, hT, rfl, f, g⟩ := y
    obtain ⟨v, q1, q2⟩ := h2.get e0
    obtain ⟨u, q3, q4⟩ := h4.get e1
    have e3 := f vs (.of h1)
    rw [q1] at e3; cases e3
    have e4 := g us (.of h3)
    rw [q3] at e4; cases e4
    exact pair_yld w hT q2 q4
end
section
variable {X : Cx} {e e2 : Expr} {f g : Ev → M D} {p pos tpos : Pos} {elts : List Expr} {kk : Nat}
/-- for a for -/
theorem is_enum (hm : X.mg "enumerate" = none) (he : EE X e f) (hg : Gl X "enumerate" := by rfl) (hs : starEach [e] X.env = [(false, eval e X.env)] := by rfl) : ItS X (.Tuple elts kk tpos) (.Call (.Name "enumerate" p) [e] [] pos) (iEnumD f) := by
  obtain ⟨t, p1, q1⟩ := he.ex
  refine ⟨_, pi_enum hg hm (pa_cons p1 pa_nil hs) hs, fun W σ H ρ S ds S' R w er hf k => ?_⟩
  obtain ⟨d, S1, h1, hf⟩ := M.bind_eq hf
  obtain ⟨h2, rfl⟩ := M.of_eq hf
  split at h2
  · cases h2
    refine q1 W σ H ρ S _ S1 _ w er h1 fun v H1 k1 w1 r1 => ?_
    cases r1 with
    | lst hH n z r =>
      exact ⟨_, _, rfl, .of hH, k _ H1 k1 w1 (yields_enum fun W2 H2 S2 ks w2 => ⟨(stepN ks _ _ n hH).1, r.step w1 ks⟩)⟩
  · cases h2
/-- for a comprehension -/
theorem ic_enum (hm : X.mg "enumerate" = none) (he : EI X e f) (hg : Gl X "enumerate" := by rfl) (hs : starEach [e] X.env = [(false, eval e X.env)] := by rfl) : ItC X (.Tuple elts kk tpos) (.Call (.Name "enumerate" p) [e] [] pos) (iEnumD f) := by
  obtain ⟨t, p1, q1⟩ := he.ex
  refine ⟨_, pi_enum hg hm (pa_cons p1 pa_nil hs) hs, fun W σ H ρ S ds S' R w er hf k => ?_⟩
  obtain ⟨d, S1, h1, hf⟩ := M.bind_eq hf
  obtain ⟨h2, rfl⟩ := M.of_eq hf
  split at h2
  · cases h2
    refine q1 W σ H ρ S _ S1 _ w er h1 fun v H1 k1 w1 r1 => ?_
    obtain ⟨p, vs, rfl, hH, z, r, n1, n2⟩ := r1.lst
    exact ⟨_, _, rfl, .of hH, k _ H1 k1 w1 (by rw [enumD_len, ← r.length]; exact z) (yields_enum fun W2 H2 S2 ks w2 => ⟨ks.k _ _ n1 n2 hH, r.step w1 ks.s⟩)⟩
  · cases h2
theorem is_zip (hm : X.mg "zip" = none) (he : EE X e f) (he2 : EE X e2 g) (hg : Gl X "zip" := by rfl) (hs : starEach [e, e2] X.env = (false, eval e X.env) :: starEach [e2] X.env := by rfl) (hs2 : starEach [e2] X.env = (false, eval e2 X.env) :: starEach [] X.env := by rfl) (hpl : (backTo pos (starEach [e2] X.env)).any (·.1) = false := by rfl) :
    ItS X (.Tuple elts kk tpos) (.Call (.Name "zip" p) [e, e2] [] pos) (iZipD f g) := by
  obtain ⟨t, p1, q1⟩ := he.ex
  obtain ⟨t2, p2, q2⟩ := he2.ex
  refine ⟨_, RZ.pi_zipA hg hm (pa_cons p1 (pa_cons p2 pa_nil hs2) hs) hs hpl, fun W σ H ρ S ds S' R w er hf k => ?_⟩
  obtain ⟨d, S1, h1, hf⟩ := M.bind_eq hf
  obtain ⟨d2, S2, h2, hf⟩ := M.bind_eq hf
  obtain ⟨h3, rfl⟩ := M.of_eq hf
  refine q1 W σ H ρ S _ S1 _ w er h1 fun v H1 k1 w1 r1 => ?_
  refine q2 W σ H1 ρ S1 _ S2 _ w1 (er.keep w k1) h2 fun u H2 k2 w2 r2 => ?_
  have r1' := r1.keep w1 k2
  split at h3
  · cases h3
    cases r1' with
    | lst hH n z r =>
      cases r2 with
      | lst hH2 n2 z2 rr =>
        exact ⟨_, _, _, _, rfl, .inl ⟨.of hH, .of hH2, k _ H2 (k1.trans k2) w2 (yields_zipL fun W3 H3 S3 ks w3 => ⟨⟨(stepN ks _ _ n hH).1, r.step w2 ks⟩, (stepN ks _ _ n2 hH2).1, rr.step w2 ks⟩)⟩⟩
  · cases h3
    cases r1' with
    | tup hH z r =>
      cases r2 with
      | tup hH2 z2 rr =>
        exact ⟨_, _, _, _, rfl, .inr ⟨.of hH, .of hH2, k _ H2 (k1.trans k2) w2 (yields_zipT fun W3 H3 S3 ks w3 => ⟨⟨stepT w2 ks _ _ hH, r.step w2 ks⟩, stepT w2 ks _ _ hH2, rr.step w2 ks⟩)⟩⟩
  · cases h3
theorem ic_zip (hm : X.mg "zip" = none) (he : EI X e f) (he2 : EI X e2 g) (hg : Gl X "zip" := by rfl) (hs : starEach [e, e2] X.env = (false, eval e X.env) :: starEach [e2] X.env := by rfl) (hs2 : starEach [e2] X.env = (false, eval e2 X.env) :: starEach [] X.env := by rfl) (hpl : (backTo pos (starEach [e2] X.env)).any (·.1) = false := by rfl) :
    ItC X (.Tuple elts kk tpos) (.Call (.Name "zip" p) [e, e2] [] pos) (iZipD f g) := by
  obtain ⟨t, p1, q1⟩ := he.ex
  obtain ⟨t2, p2, q2⟩ := he2.ex
  refine ⟨_, RZ.pi_zipA hg hm (pa_cons p1 (pa_cons p2 pa_nil hs2) hs) hs hpl, fun W σ H ρ S ds S' R w er hf k => ?_⟩
  obtain ⟨d, S1, h1, hf⟩ := M.bind_eq hf
  obtain ⟨d2, S2, h2, hf⟩ := M.bind_eq hf
  obtain ⟨h3, rfl⟩ := M.of_eq hf
  refine q1 W σ H ρ S _ S1 _ w er h1 fun v H1 k1 w1 r1 => ?_
  refine q2 W σ H1 ρ S1 _ S2 _ w1 (er.keep w k1) h2 fun u H2 k2 w2 r2 => ?_
  have r1' := r1.keep w1 k2
  split at h3
  · cases h3
    obtain ⟨p, vs, rfl, hH, z, r, n1, n2⟩ := r1'.lst
    obtain ⟨p', us, rfl, hH2, z2, rr, m1, m2⟩ := r2.lst
    exact ⟨_, _, _, _, rfl, .inl ⟨.of hH, .of hH2, k _ H2 (k1.trans k2) w2 (by rw [zipD_len, ← r.length]; omega) (yields_zipL fun W3 H3 S3 ks w3 => ⟨⟨ks.k _ _ n1 n2 hH, r.step w2 ks.s⟩, ks.k _ _ m1 m2 hH2, rr.step w2 ks.s⟩)⟩⟩
  · cases h3
    obtain ⟨p, vs, rfl, hH, z, r⟩ := r1'.tup
    obtain ⟨p', us, rfl, hH2, z2, rr⟩ := r2.tup
    exact ⟨_, _, _, _, rfl, .inr ⟨.of hH, .of hH2, k _ H2 (k1.trans k2) w2 (by rw [zipD_len, ← r.length]; omega) (yields_zipT fun W3 H3 S3 ks w3 => ⟨⟨stepT w2 ks.s _ _ hH, r.step w2 ks.s⟩, stepT w2 ks.s _ _ hH2, rr.step w2 ks.s⟩)⟩⟩
  · cases h3
end
end L2.EV

/-! EV, part Y: enumerate of a tuple. -/
namespace L2.EV
open PySem PySem.Spec PyProof.Rows
open Sem (wp)
open AutoSeq1 (wpAny_loadPart')
theorem meets_enumerate_newT (l : Addr) (items : Array Value) (n : Nat) (dct : Option Addr) (sl : Array (Option Value)) :
    Meets (Builtin.«enumerate.__new__» ⟨[.type "enumerate", .ref l], []⟩) (fun _ R s => s.heap.get? l = some { cls := .type "tuple", dict := dct, data := .seq items n, slots := sl } ∧
      R (.ok (.ret (.ref (s.heap.push { cls := .type "tuple_iterator", data := .fields #[.ref l, .int 0 0] }).objs.size)))
        { s with heap := (s.heap.push { cls := .type "tuple_iterator", data := .fields #[.ref l, .int 0 0] }).push { cls := .type "enumerate", data := .fields #[.none, .bool false, .ref s.heap.objs.size, rawInt 0, .none, .none] } }) :=
  .of_wp fun prog w A R s h => by
    obtain ⟨hp, g, d, tk, os⟩ := s; obtain ⟨hl, h⟩ := h
    have hsub := sub_enumerate
    have hL : Heap.IsTuple (Shared.heap ⟨hp, g, d, tk, os⟩) l items := ⟨_, hl, rfl, n, rfl⟩
    wp_walk using wpAny_loadPart' hl
    refine wpAny_stack_any fun st => wpAny_pure ?_
    split
    · rename_i c _ _ _ _ _
      cases (c == Value.type "enumerate")
      · wp_walk using wpAny_loadPart' hl, wpAny_pyIter_tuple hL
        exact ⟨_, rfl, h⟩
      · wp_walk using wpAny_loadPart' hl, wpAny_pyIter_tuple hL
        exact ⟨_, rfl, h⟩
    · wp_walk using wpAny_loadPart' hl, wpAny_pyIter_tuple hL
      exact ⟨_, rfl, h⟩
section
variable {prog : Program} {w : World} {A : Around} {E : Value → Shared → Prop} {s : Shared}
theorem call_enumerate_tuple {l : Addr} {items : Array Value} {Q : Value → Shared → Prop} (hL : s.heap.IsTuple l items)
    (h : ∀ h', IsEnum h' (s.heap.objs.size + 1) s.heap.objs.size 0 .none → h'.IsTupleIter s.heap.objs.size l 0 → h'.objs.size = s.heap.objs.size + 2 →
      (∀ b o, s.heap.get? b = some o → h'.get? b = some o) → Q (.ref (s.heap.objs.size + 1)) { s with heap := h' }) :
    wpAny (model prog w) A (call (.type "enumerate") [.ref l]) Q E s := by
  obtain ⟨⟨c, dct, dt, sl⟩, hl, hc, n, hd⟩ := hL
  replace hc : c = .type "tuple" := hc
  replace hd : dt = .seq items n := hd
  subst hc hd
  refine callType_new F.called_enumerate (by decide) (F.typeCall_enumerate_1 _) (F.newCall_enumerate_1 _) (fun obj => F.args_object_init_2 obj _) F.entry_enumerate_new
    (meets_enumerate_newT l items n dct sl) ⟨hl, ?_⟩
  have hz : (s.heap.push { cls := .type "tuple_iterator", data := .fields #[.ref l, .int 0 0] }).objs.size = s.heap.objs.size + 1 := Heap.size_push ..
  show _ ∧ _
  rw [hz]
  have he : IsEnum ((s.heap.push { cls := .type "tuple_iterator", data := .fields #[.ref l, .int 0 0] }).push
      { cls := .type "enumerate", data := .fields #[.none, .bool false, .ref s.heap.objs.size, rawInt 0, .none, .none] }) (s.heap.objs.size + 1) s.heap.objs.size 0 .none := by
    have := Heap.get?_push_size (s.heap.push { cls := .type "tuple_iterator", data := .fields #[.ref l, .int 0 0] })
      (o := { cls := .type "enumerate", data := .fields #[.none, .bool false, .ref s.heap.objs.size, rawInt 0, .none, .none] }) rfl
    rw [hz] at this; exact this
  refine ⟨⟨_, he, rfl⟩, h _ he ⟨_, Heap.get?_push_of_some _ (Heap.get?_push_size _ rfl), rfl, rfl⟩ (by rw [Heap.size_push, hz]) fun b o x => Heap.get?_push_of_some _ (Heap.get?_push_of_some _ x)⟩
end
/-- the tuple at a as it stands at each turn, each item in a new pair -/
def IteT (K : PySem.W.Frag) (a : Addr) : It :=
  ⟨fun i H => ∃ (xs : List V) (x : V), SqT K H a xs ∧ xs[i]? = some x, fun i H v H' => ∃ T x, v = .ref T ∧ H T = none ∧ H' = upd H T (.tup [.int (i : Nat), x]) ∧ ∀ xs, SqT K H a xs → xs[i]? = some x, fun i H => ∃ xs : List V, SqT K H a xs ∧ xs.length ≤ i⟩
theorem turn_enumT {P : Program} {w : World} {K : PySem.W.Frag} {elts : List Expr} {kk : Nat} {tpos : Pos} (a e it : Addr) :
    Turn P w K (.Tuple elts kk tpos) (IteT K a) [e, it] e (fun i h => (∃ old, IsEnum h e it ((i : Nat) : Int) old) ∧ h.IsTupleIter it a i ∧ e ≠ it) where
  mem := by simp
  obj := fun i h st b hb => by
    obtain ⟨⟨old, he⟩, ⟨o, ho, hc, hd⟩, _⟩ := st
    have e' : b = e ∨ b = it := by simpa using hb
    rcases e' with z | z
    · rw [z]; exact ⟨_, he, fun v q => nomatch q⟩
    · rw [z]; exact ⟨o, ho, fun v q => by rw [hd] at q; cases q⟩
  keep := fun i h h' st k => let ⟨⟨old, he⟩, hi, hne⟩ := st; ⟨⟨old, k e (by simp) _ he⟩, hi.at fun o q => k it (by simp) o q, hne⟩
  item := by
    intro X hP hw hK hc i pins s σ H E I hf st hg
    subst hP hw hK
    obtain ⟨⟨old, he⟩, hit, hne⟩ := st
    obtain ⟨xs, x, hq, hx⟩ := hg
    obtain ⟨its, rv, p, hz⟩ := I.tuple hq
    have p : s.heap.IsTuple a its.toArray := p
    obtain ⟨u, hu, ru⟩ := rv.get hx
    have hel : e < s.heap.objs.size := Heap.lt_size he
    have hil : it < s.heap.objs.size := by obtain ⟨_, q, _⟩ := hit; exact Heap.lt_size q
    have hii : i < its.toArray.size := by
      rw [List.size_toArray]
      rcases Nat.lt_or_ge i its.length with h | h
      · exact h
      · rw [List.getElem?_eq_none h] at hu; cases hu
    have hea : e ≠ a := by
      rintro rfl
      obtain ⟨o, h1, h2, _⟩ := p
      rw [he] at h1; cases h1; exact absurd (show Value.type "enumerate" = Value.type "tuple" from h2) (by decide)
    have hai : a ≠ it := by
      rintro rfl
      obtain ⟨o, h1, h2, _⟩ := p
      obtain ⟨o', h3, h4, _⟩ := hit
      rw [h3] at h1; cases h1
      rw [h4] at h2; exact absurd h2 (by decide)
    refine wpAny_pyNext_enum_itemD (Draws.tuple (A := X.A.in1) (I.ok.hd hc) it a hai its.toArray) he ⟨hit, p⟩ hii hne (by simp [hne, hea]) fun x' h' tk hP ho hst' hT hsz hk => ?_
    have ex : x' = u := by
      have hP' : its.toArray[i]? = some x' := hP
      rw [List.getElem?_toArray, hu] at hP'
      cases hP'; rfl
    subst ex
    refine ⟨_, rfl, wpAny_letOwnedTupleGo_enum (s := { s with heap := h', toks := tk + 1 }) ho fun h'' he' sb => ?_⟩
    have hT2 : h''.get? s.heap.objs.size = some { cls := .type "tuple", data := .seq #[.int i tk, x'] } := (sb.2 _ (Nat.ne_of_gt hel)).trans hT
    have new : ObjOk X.prog X.w (upd H s.heap.objs.size (.tup [.int (i : Nat), x])) h'' s.heap.objs.size (.tup [.int (i : Nat), x]) :=
      ⟨by show 2 ≤ sizeLine; decide, [.int i tk, x'], .cons ⟨_, rfl⟩ (.cons ru .nil), ⟨_, hT2, rfl, _, rfl⟩⟩
    have I1 : Inv X pins σ (upd H s.heap.objs.size (.tup [.int (i : Nat), x])) { s with heap := h'', toks := tk + 1 } :=
      I.turnedNew (ch := [e, it]) (fun b ob hb q => (sb.2 b (fun z => hb (by simp [z]))).trans (hk b ob (fun z => hb (by simp [z])) (fun z => hb (by simp [z])) q)) hf (Nat.le_refl _) new
    refine ⟨.ref s.heap.objs.size, _, I1, rfl, ⟨_, x, rfl, I.hok.fresh (Nat.le_refl _), rfl, fun ys hy => by rw [I.tuple_inj hy hq]; exact hx⟩, ⟨⟨x', ?_⟩, hst'.1.at fun o q => (sb.2 it (Ne.symm hne)).trans q, hne⟩, fun b hb => ?_⟩
    · have e1 : ((i + 1 : Nat) : Int) = (i : Int) + 1 := by omega
      rw [e1]; exact he'
    · have hb' : b < s.heap.objs.size := by
        have e' : b = e ∨ b = it := by simpa using hb
        rcases e' with z | z
        · rw [z]; exact hel
        · rw [z]; exact hil
      rw [upd_ne (Nat.ne_of_lt hb')]
      exact (hf b hb).1
  done := by
    intro X hP hw hK hc i pins s σ H E I hf st hg
    subst hP hw hK
    obtain ⟨⟨old, he⟩, hit, hne⟩ := st
    obtain ⟨xs, hq, hx⟩ := hg
    obtain ⟨its, rv, p, hz⟩ := I.tuple hq
    have p : s.heap.IsTuple a its.toArray := p
    obtain ⟨f0, f1, f2, f3, f4, f5⟩ := hf it (by simp)
    have hl := rv.length
    have hii : its.length ≤ i := by omega
    have hT : s.TypeIs (.ref e) "enumerate" := ⟨_, he, rfl⟩
    unfold pyNext
    refine wpAny_bind (wpAny_attempt (wpAny_callSpecial?_slot (name := Str.ofString "__next__") hT F.slot_enumerate_next
      (wpAny_call_entry F.slot_enumerate_next hT F.entry_enumerate_next ?_ (F.args_enumerate_next_1 _))))
    show wpAny _ _ (field (.ref e) 2 >>= _) _ _ _
    refine wpAny_bind (wpAny_field he rfl (x := .ref it) rfl ?_)
    refine wpAny_bind (wpAny_nextOf_tuple_end (A := X.A.in1) (I.ok.hd hc) hit p (by rw [List.getElem?_toArray]; exact List.getElem?_eq_none hii) fun h' x he' hx' => ?_)
    obtain ⟨o, ho, hc'⟩ := hx'
    refine wpAny_bind (wpAny_isInstance (T := "StopIteration") (b := true) ⟨o, ho, hc'⟩ isSubtype_stop ?_)
    exact wpAny_pure ⟨rfl, I.turned (t' := s.toks) (fun b o hb q => he' b o hb q) f0 f1 f3 f4 f5⟩
  self := fun A i s Q E st h => let ⟨⟨_, he⟩, _⟩ := st; wpAny_pyIter_enum he h
def iEnumT (K : PySem.W.Frag) (ta : TA) : TI := fun σ H R => ta σ H fun vs H1 => ∃ a xs, vs = [.ref a] ∧ SqT K H1 a xs ∧ R (IteT K a) H1
theorem pi_enumT {X : Cx} {e : Expr} {ta : TA} {p pos tpos : Pos} {elts : List Expr} {kk : Nat} (hg : Gl X "enumerate") (hm : X.mg "enumerate" = none) (ha : PA X [e] ta) (hs : starEach [e] X.env = [(false, eval e X.env)] := by rfl) :
    PI X (.Tuple elts kk tpos) (.Call (.Name "enumerate" p) [e] [] pos) (iEnumT X.K ta) := by
  refine ⟨fun pins s σ H R I h => ?_⟩
  refine Call_ (ld_blt I hg hm boot_enumerate (PyProof.Rows.callWith_type1 (thn (ha.run pos pins s σ H _ I h) fun us s1 ⟨vs, H1, I1, r1, q1⟩ => ?_) hs rfl))
  obtain ⟨a, xs, ex, hq, q⟩ := q1
  subst ex
  cases r1 with
  | cons r rr =>
    cases rr
    cases r
    obtain ⟨its, rv, p', hz⟩ := I1.tuple hq
    refine call_enumerate_tuple (show s1.heap.IsTuple a its.toArray from p') fun h' he hit hsz hk => wpAny_pyIter_enum he ?_
    have I2 : Inv X pins σ H1 { s1 with heap := h' } := I1.kept (t' := s1.toks) hk
    refine ⟨s1.heap.objs.size + 1, [s1.heap.objs.size + 1, s1.heap.objs.size], _, _, H1, rfl, I2, turn_enumT a (s1.heap.objs.size + 1) s1.heap.objs.size, ⟨⟨.none, he⟩, hit, Nat.succ_ne_self _⟩, fun b hb => ?_, q⟩
    have e' : b = s1.heap.objs.size + 1 ∨ b = s1.heap.objs.size := by simpa using hb
    have hle : s1.heap.objs.size ≤ b := by
      rcases e' with z | z
      · rw [z]; exact Nat.le_add_right _ _
      · rw [z]; exact Nat.le_refl _
    exact I1.fpOk hle (I1.hok.fresh hle)
/-! ### enumerate of any of both -/
section
variable {K : PySem.W.Frag} {p a b : Addr} {vs us : List V} {ds es : List D} {R : Wd → Hp → Prop}
theorem yields_enumT (h : ∀ W2 H2 S2, R W2 H2 → WRel W2 H2 S2 → H2 p = some (.tup vs) ∧ RepAll W2.no W2.sa H2 vs ds) : Yields R (IteT K p) (enumD ds) where
  go := fun i W H S hi r w => by
    obtain ⟨h1, h2⟩ := h W H S r w
    have hl : i < vs.length := by rw [h2.length, ← enumD_len]; exact hi
    exact ⟨vs, vs[i], .of h1, by simp [hl]⟩
  stop := fun W H S r w => by
    obtain ⟨h1, h2⟩ := h W H S r w
    exact ⟨vs, .of h1, by rw [enumD_len]; exact Nat.le_of_eq h2.length⟩
  yld := fun i d W H S x H' e r w y => by
    obtain ⟨h1, h2⟩ := h W H S r w
    obtain ⟨d0, e0, rfl⟩ := enumD_get e
    obtain ⟨T, x0, rfl, hT, rfl, f⟩ := y
    obtain ⟨v, e1, e2⟩ := h2.get e0
    have e3 := f vs (.of h1)
    rw [e1] at e3; cases e3
    exact pair_yld w hT (.int _) e2
end
def iEnumA (f : Ev → M D) : Ev → M (List D) := fun ρ => f ρ >>= fun d => M.of ((seqOf d).map enumD)
section
variable {X : Cx} {e e2 : Expr} {f g : Ev → M D} {p pos tpos : Pos} {elts : List Expr} {kk : Nat}
theorem is_enumA (hm : X.mg "enumerate" = none) (he : EE X e f) (hg : Gl X "enumerate" := by rfl) (hs : starEach [e] X.env = [(false, eval e X.env)] := by rfl) : ItS X (.Tuple elts kk tpos) (.Call (.Name "enumerate" p) [e] [] pos) (iEnumA f) := by
  obtain ⟨t, p1, q1⟩ := he.ex
  refine ⟨_, PI.or (pi_enum hg hm (pa_cons p1 pa_nil hs) hs) (pi_enumT hg hm (pa_cons p1 pa_nil hs) hs), fun W σ H ρ S ds S' R w er hf k => ?_⟩
  obtain ⟨d, S1, h1, hf⟩ := M.bind_eq hf
  obtain ⟨h2, rfl⟩ := M.of_eq hf
  obtain ⟨xs, h3, rfl⟩ := Option.map_eq_some_iff.mp h2
  cases d with
  | lst ds' =>
    cases h3
    refine .inl (q1 W σ H ρ S _ S1 _ w er h1 fun v H1 k1 w1 r1 => ?_)
    cases r1 with
    | lst hH n z r =>
      exact ⟨_, _, rfl, .of hH, k _ H1 k1 w1 (yields_enum fun W2 H2 S2 ks w2 => ⟨(stepN ks _ _ n hH).1, r.step w1 ks⟩)⟩
  | tup ds' =>
    cases h3
    refine .inr (q1 W σ H ρ S _ S1 _ w er h1 fun v H1 k1 w1 r1 => ?_)
    cases r1 with
    | tup hH z r =>
      exact ⟨_, _, rfl, .of hH, k _ H1 k1 w1 (yields_enumT fun W2 H2 S2 ks w2 => ⟨stepT w1 ks _ _ hH, r.step w1 ks⟩)⟩
  | _ => cases h3
theorem ic_enumA (hm : X.mg "enumerate" = none) (he : EI X e f) (hg : Gl X "enumerate" := by rfl) (hs : starEach [e] X.env = [(false, eval e X.env)] := by rfl) : ItC X (.Tuple elts kk tpos) (.Call (.Name "enumerate" p) [e] [] pos) (iEnumA f) := by
  obtain ⟨t, p1, q1⟩ := he.ex
  refine ⟨_, PI.or (pi_enum hg hm (pa_cons p1 pa_nil hs) hs) (pi_enumT hg hm (pa_cons p1 pa_nil hs) hs), fun W σ H ρ S ds S' R w er hf k => ?_⟩
  obtain ⟨d, S1, h1, hf⟩ := M.bind_eq hf
  obtain ⟨h2, rfl⟩ := M.of_eq hf
  obtain ⟨xs, h3, rfl⟩ := Option.map_eq_some_iff.mp h2
  cases d with
  | lst ds' =>
    cases h3
    refine .inl (q1 W σ H ρ S _ S1 _ w er h1 fun v H1 k1 w1 r1 => ?_)
    obtain ⟨p, vs, rfl, hH, z, r, n1, n2⟩ := r1.lst
    exact ⟨_, _, rfl, .of hH, k _ H1 k1 w1 (by rw [enumD_len, ← r.length]; exact z) (yields_enum fun W2 H2 S2 ks w2 => ⟨ks.k _ _ n1 n2 hH, r.step w1 ks.s⟩)⟩
  | tup ds' =>
    cases h3
    refine .inr (q1 W σ H ρ S _ S1 _ w er h1 fun v H1 k1 w1 r1 => ?_)
    obtain ⟨p, vs, rfl, hH, z, r⟩ := r1.tup
    exact ⟨_, _, rfl, .of hH, k _ H1 k1 w1 (by rw [enumD_len, ← r.length]; exact z) (yields_enumT fun W2 H2 S2 ks w2 => ⟨stepT w1 ks.s _ _ hH, r.step w1 ks.s⟩)⟩
  | _ => cases h3
end
end L2.EV

/-! EV, part Z: tuple(range(..)), list(range(..)); starred items; list.pop(i); what is popped in passing. -/
namespace L2.EV
open PySem PySem.Spec PyProof.Rows

/-! ### ranges as arguments -/
def TRg (t : St → Hp → (Int → Int → Hp → Prop) → Prop) (f : Ev → M (List D)) : Prop := ∀ (W : Wd) (σ : St) (H : Hp) (ρ : Ev) (S : Src) (ds : List D) (S' : Src) (Q : Int → Int → Hp → Prop), WRel W H S → EnvRel W H σ ρ → f ρ S = some (ds, S') →
  (∀ (i j : Int) (H1 : Hp), Keep W H H1 → WRel W H1 S' → (∀ es, rgD ds = some es → RgOk i j ∧ es = rangeD i (j - i).toNat) → Q i j H1) → (rgD ds).isSome → t σ H Q
structure ER (X : Cx) (e : Expr) (f : Ev → M (List D)) : Prop where ex : ∃ t, PRg X e t ∧ TRg t f
theorem rgD1 {j : Int} {es : List D} (h : rgD [.int j] = some es) : RgOk 0 j ∧ es = rangeD 0 (j - 0).toNat := by
  unfold rgD at h
  simp only at h
  split at h
  · rename_i c
    cases h
    rw [Bool.and_eq_true, decide_eq_true_eq] at c
    have c1 := of_decide_eq_true c.1
    exact ⟨⟨by decide, by decide, c1.1, c1.2, by rw [Int.sub_zero]; exact c.2⟩, by rw [Int.sub_zero]⟩
  · cases h
theorem rgD2 {i j : Int} {es : List D} (h : rgD [.int i, .int j] = some es) : RgOk i j ∧ es = rangeD i (j - i).toNat := by
  unfold rgD at h
  simp only at h
  split at h
  · rename_i c
    cases h
    rw [Bool.and_eq_true, Bool.and_eq_true, decide_eq_true_eq] at c
    have c1 := of_decide_eq_true c.1.1
    have c2 := of_decide_eq_true c.1.2
    exact ⟨⟨c1.1, c1.2, c2.1, c2.2, c.2⟩, rfl⟩
  · cases h
section
variable {X : Cx} {a b : Expr} {f g : Ev → M D} {p pos p2 pos2 : Pos} {e : Expr} {fr : Ev → M (List D)}
theorem er_1 (hm : X.mg "range" = none) (ha : EI X a f) (hg : Gl X "range" := by rfl) (na : starEach [a] X.env = (false, eval a X.env) :: starEach [] X.env := by rfl) : ER X (.Call (.Name "range" p) [a] [] pos) (aCons f aNil) := by
  obtain ⟨t, p1, q⟩ := ha.ex
  refine ⟨_, prg_1 hg hm p1 na, fun W σ H ρ S ds S' Q w er hf k hs => ?_⟩
  obtain ⟨x, S2, e2, e1⟩ := M.bind_eq hf
  obtain ⟨e3, rfl⟩ := M.pure_eq (show (pure [x] : M (List D)) S2 = some (ds, S') from e1)
  subst e3
  refine q W σ H ρ S x _ _ w er e2 fun v H1 k1 w1 r1 => ?_
  cases x with
  | int j => exact ⟨j, r1.int, k 0 j H1 k1 w1 fun es h => rgD1 h⟩
  | _ => cases hs
theorem er_2 (hm : X.mg "range" = none) (ha : EI X a f) (hb : EI X b g) (hg : Gl X "range" := by rfl) (na : starEach [a, b] X.env = (false, eval a X.env) :: starEach [b] X.env := by rfl)
    (nb : starEach [b] X.env = (false, eval b X.env) :: starEach [] X.env := by rfl) (hp : (backTo pos (starEach [b] X.env)).any (·.1) = false := by rfl) : ER X (.Call (.Name "range" p) [a, b] [] pos) (aCons f (aCons g aNil)) := by
  obtain ⟨t, p1, q1⟩ := ha.ex
  obtain ⟨t2, p2, q2⟩ := hb.ex
  refine ⟨_, prg_2 hg hm p1 p2 na nb hp, fun W σ H ρ S ds S' Q w er hf k hs => ?_⟩
  obtain ⟨x, S2, e2, e1⟩ := M.bind_eq hf
  obtain ⟨zs, S4, e1, e9⟩ := M.bind_eq e1
  obtain ⟨y, S3, e4, e5⟩ := M.bind_eq e1
  obtain ⟨e3, rfl⟩ := M.pure_eq (show (pure [y] : M (List D)) S3 = some (zs, S4) from e5)
  subst e3
  obtain ⟨e3, rfl⟩ := M.pure_eq e9
  subst e3
  refine q1 W σ H ρ S x _ _ w er e2 fun v H1 k1 w1 r1 => ?_
  refine q2 W σ H1 ρ S2 y _ _ w1 (er.keep w k1) e4 fun u H2 k2 w2 r2 => ?_
  cases x with
  | int i =>
    cases y with
    | int j => exact ⟨i, j, r1.int, r2.int, k i j H2 (k1.trans k2) w2 fun es h => rgD2 h⟩
    | _ => cases hs
  | _ => cases hs
theorem rg_reps {N : Addr → Prop} {sa : Addr} {H : Hp} {i j : Int} : RepAll N sa H (rgV i j) (rangeD i (j - i).toNat) := rg_rep i (j - i).toNat
theorem en_rgL (hml : X.mg "list" = none) (h : ER X e fr) (hgl : Gl X "list" := by rfl) (hc : X.calm = true := by rfl) (nb : starEach [e] X.env = (false, eval e X.env) :: starEach [] X.env := by rfl) : EN X (.Call (.Name "list" p2) [e] [] pos2) (eRgL fr) := by
  obtain ⟨t, p1, q⟩ := h.ex
  refine ⟨_, pe_listRg hc hgl hml p1 nb, fun W σ H ρ S d S' Q w er hf k => ?_⟩
  obtain ⟨ds, S1, e1, hf⟩ := M.bind_eq hf
  obtain ⟨e4, rfl⟩ := M.of_eq hf
  obtain ⟨es, e5, rfl⟩ := Option.map_eq_some_iff.mp e4
  refine q W σ H ρ S ds _ _ w er e1 (fun i j H1 k1 w1 f => ?_) (by rw [e5]; rfl)
  obtain ⟨ok, rfl⟩ := f es e5
  refine ⟨ok, fun q hq => ?_⟩
  have z : (rgV i j).length ≤ sizeLine := by rw [rgV_length]; exact ok.2.2.2.2
  have t := top_lst w1 hq (rg_reps (N := W.no) (sa := W.sa) (H := H1) (i := i) (j := j)) z
  exact k q _ (keep_none w1 k1 hq) (k1.trans t.1) t.2.1 t.2.2
theorem ee_rgT (hml : X.mg "tuple" = none) (h : ER X e fr) (hgl : Gl X "tuple" := by rfl) (hc : X.calm = true := by rfl) (nb : starEach [e] X.env = (false, eval e X.env) :: starEach [] X.env := by rfl) : EE X (.Call (.Name "tuple" p2) [e] [] pos2) (eRgT fr) := by
  obtain ⟨t, p1, q⟩ := h.ex
  refine ⟨_, pe_tupRg hc hgl hml p1 nb, fun W σ H ρ S d S' Q w er hf k => ?_⟩
  obtain ⟨ds, S1, e1, hf⟩ := M.bind_eq hf
  obtain ⟨e4, rfl⟩ := M.of_eq hf
  obtain ⟨es, e5, rfl⟩ := Option.map_eq_some_iff.mp e4
  refine q W σ H ρ S ds _ _ w er e1 (fun i j H1 k1 w1 f => ?_) (by rw [e5]; rfl)
  obtain ⟨ok, rfl⟩ := f es e5
  refine ⟨ok, fun q hq => ?_⟩
  have z : (rgV i j).length ≤ sizeLine := by rw [rgV_length]; exact ok.2.2.2.2
  exact k _ _ (k1.trans (keep_laid hq)) (w1.laid hq) (rep_newT w1 rg_reps z hq)
end

/-! ### starred items -/
def aStar (f : Ev → M D) (g : Ev → M (List D)) : Ev → M (List D) := fun ρ => f ρ >>= fun x => M.of (seqOf x) >>= fun xs => g ρ >>= fun ys => pure (xs ++ ys)
/-- items of a tuple or list that is being made -/
def TAt (t : TA) (f : Ev → M (List D)) : Prop := ∀ (W : Wd) (σ : St) (H : Hp) (ρ : Ev) (S : Src) (ds : List D) (S' : Src) (Q : List V → Hp → Prop), WRel W H S → EnvRel W H σ ρ → f ρ S = some (ds, S') →
  (∀ vs H', Keep W H H' → WRel W H' S' → RepAll W.no W.sa H' vs ds → Q vs H') → t σ H Q
structure EAs (X : Cx) (es : List Expr) (f : Ev → M (List D)) : Prop where ex : ∃ t, PA X es t ∧ TAt t f
section
variable {X : Cx} {a e : Expr} {es : List Expr} {f : Ev → M D} {g : Ev → M (List D)} {pos p : Pos}
theorem eas_nil : EAs X [] aNil := ⟨_, pa_nil, fun W σ H ρ S d S' Q w er hf k => by
  obtain ⟨rfl, rfl⟩ := M.pure_eq hf
  exact k _ H (.refl _ _) w .nil⟩
theorem eas_cons (ha : EE X a f) (hb : EAs X es g) (hs : starEach (a :: es) X.env = (false, eval a X.env) :: starEach es X.env := by rfl) : EAs X (a :: es) (aCons f g) := by
  obtain ⟨t, p, q⟩ := ha.ex
  obtain ⟨t2, p2, q2⟩ := hb.ex
  refine ⟨_, pa_cons p p2 hs, fun W σ H ρ S d S' Q w er hf k => ?_⟩
  obtain ⟨x, S1, e1, hf⟩ := M.bind_eq hf
  obtain ⟨xs, S2, e2, hf⟩ := M.bind_eq hf
  obtain ⟨rfl, rfl⟩ := M.pure_eq hf
  refine q W σ H ρ S x S1 _ w er e1 fun v H1 k1 w1 r1 => ?_
  exact q2 W σ H1 ρ S1 xs S2 _ w1 (er.keep w k1) e2 fun vs H2 k2 w2 r2 => k _ H2 (k1.trans k2) w2 (.cons (r1.keep w1 k2) r2)
theorem eas_star (ha : EE X a f) (hb : EAs X es g) (hs : starEach (.Starred a p :: es) X.env = (true, eval a X.env) :: starEach es X.env := by rfl) : EAs X (.Starred a p :: es) (aStar f g) := by
  obtain ⟨t, p1, q⟩ := ha.ex
  obtain ⟨t2, p2, q2⟩ := hb.ex
  refine ⟨_, StX.pa_star p1 p2 hs, fun W σ H ρ S d S' Q w er hf k => ?_⟩
  obtain ⟨x, S1, e1, hf⟩ := M.bind_eq hf
  obtain ⟨xs, S2, e2, hf⟩ := M.bind_eq hf
  obtain ⟨ys, S3, e3, hf⟩ := M.bind_eq hf
  obtain ⟨rfl, rfl⟩ := M.pure_eq hf
  obtain ⟨e2, rfl⟩ := M.of_eq e2
  refine q W σ H ρ S x _ _ w er e1 fun v H1 k1 w1 r1 => ?_
  cases x with
  | lst ds' =>
    cases e2
    cases r1 with
    | lst hH n z r =>
      exact ⟨_, _, rfl, .inr (.of hH), q2 W σ H1 ρ _ ys _ _ w1 (er.keep w k1) e3 fun vs H2 k2 w2 r2 => k _ H2 (k1.trans k2) w2 ((r.keep w1 k2).append r2)⟩
  | tup ds' =>
    cases e2
    cases r1 with
    | tup hH z r =>
      exact ⟨_, _, rfl, .inl (.of hH), q2 W σ H1 ρ _ ys _ _ w1 (er.keep w k1) e3 fun vs H2 k2 w2 r2 => k _ H2 (k1.trans k2) w2 ((r.keep w1 k2).append r2)⟩
  | _ => cases e2
def eTupS (f : Ev → M (List D)) : Ev → M D := fun ρ => f ρ >>= fun xs => M.of (if xs.length ≤ sizeLine then some (.tup xs) else none)
def eLstS (f : Ev → M (List D)) : Ev → M D := fun ρ => f ρ >>= fun xs => M.of (if xs.length ≤ sizeLine then some (.lst xs) else none)
theorem ee_tupS {k : Nat} {f : Ev → M (List D)} (h : EAs X es f) : EE X (.Tuple es k pos) (eTupS f) := by
  obtain ⟨t, p, q⟩ := h.ex
  refine ⟨_, pe_tup p, fun W σ H ρ S d S' Q w er hf k => ?_⟩
  obtain ⟨xs, S1, e1, hf⟩ := M.bind_eq hf
  obtain ⟨e2, rfl⟩ := M.of_eq hf
  split at e2
  · rename_i c
    cases e2
    refine q W σ H ρ S xs _ _ w er e1 fun vs H1 k1 w1 r1 => ?_
    have z : vs.length ≤ sizeLine := by rw [r1.length]; exact c
    exact ⟨z, fun p hp => k _ _ (k1.trans (keep_laid hp)) (w1.laid hp) (rep_newT w1 r1 z hp)⟩
  · cases e2
theorem en_lstS {f : Ev → M (List D)} (h : EAs X es f) : EN X (.List es pos) (eLstS f) := by
  obtain ⟨t, p, q⟩ := h.ex
  refine ⟨_, pe_lst p, fun W σ H ρ S d S' Q w er hf k => ?_⟩
  obtain ⟨xs, S1, e1, hf⟩ := M.bind_eq hf
  obtain ⟨e2, rfl⟩ := M.of_eq hf
  split at e2
  · rename_i c
    cases e2
    refine q W σ H ρ S xs _ _ w er e1 fun vs H1 k1 w1 r1 => ?_
    have z : vs.length ≤ sizeLine := by rw [r1.length]; exact c
    refine ⟨z, fun p hp => ?_⟩
    have t := top_lst w1 hp r1 z
    exact k p _ (keep_none w1 k1 hp) (k1.trans t.1) t.2.1 t.2.2
  · cases e2
end
end L2.EV

/-! EV, part AA: comprehensions of two fors. -/
namespace L2.EV
open PySem PySem.Spec PyProof.Rows

/-- a loop's bound from a walk -/
theorem walk_it {J : It} {n : Nat} {G : Hp → Prop} {Y : Nat → Hp → V → Hp → Prop} (w : Walk J n G Y) {H0 : Hp} {Qd : Hp → Prop} {B : (Hp → Prop) → V → Hp → Prop} (Pv : Nat → Hp → Prop) (h0 : Pv 0 H0) (hG : ∀ i H, i ≤ n → Pv i H → G H)
    (hs : ∀ i x H H', i < n → Pv i H → Y i H x H' → B (Pv (i + 1)) x H') (hd : ∀ H, Pv n H → Qd H) :
    ∃ W : Nat → Nat → Hp → Prop, (∃ m, W 0 m H0) ∧ ∀ i m H, W i m H →
      (J.stop i H ∧ Qd H) ∨ (J.go i H ∧ ∃ Nx : Hp → Prop, (∀ H', Nx H' → ∃ m', m' < m ∧ W (i + 1) m' H') ∧ ∀ x H', J.yld i H x H' → B Nx x H') := by
  refine ⟨fun i m H => m = n - i ∧ i ≤ n ∧ Pv i H, ⟨n, by simp, Nat.zero_le _, h0⟩, ?_⟩
  rintro i m H ⟨rfl, hi, p⟩
  have q := hG i H hi p
  by_cases hlt : i < n
  · exact .inr ⟨w.goes i H hlt q, Pv (i + 1), fun H' p' => ⟨n - (i + 1), by omega, rfl, hlt, p'⟩, fun x H' y => hs i x H H' hlt p (w.yields i H x H' hlt q y)⟩
  · have e : i = n := by omega
    subst e
    exact .inl ⟨w.stops H q, hd H p⟩
/-- the least reading of what is walked -/
def tIs (f : Ev → M (List D)) : TI := fun σ H R => ∃ (W : Wd) (ρ : Ev) (S : Src) (ds : List D) (S' : Src), WRel W H S ∧ EnvRel W H σ ρ ∧ f ρ S = some (ds, S') ∧ ∀ J H1, Keep W H H1 → WRel W H1 S' → Yields (fun W2 H2 => KeepS W H1 W2 H2) J ds → R J H1
theorem tIs_v (f : Ev → M (List D)) : TIs (tIs f) f := fun W σ H ρ S ds S' R w er hf k => ⟨W, ρ, S, ds, S', w, er, hf, k⟩
theorem ItS.max {X : Cx} {tg e : Expr} {f : Ev → M (List D)} (h : ItS X tg e f) : PI X tg e (tIs f) := by
  obtain ⟨t, p, q⟩ := h.ex
  exact ⟨fun pins s σ H R I ⟨W, ρ, S, ds, S', w, er, hf, k⟩ => p.run pins s σ H R I (q W σ H ρ S ds S' R w er hf k)⟩
/-- a target sets no owned cell -/
def NoO (g : D → Ev → Option Ev) : Prop := ∀ d ρ ρ', g d ρ = some ρ' → ∀ (i : Nat) (d' : D), ρ'[i]? = some (some (.o d')) → ρ[i]? = some (some (.o d'))
def NoOs (g : List D → Ev → Option Ev) : Prop := ∀ d ρ ρ', g d ρ = some ρ' → ∀ (i : Nat) (d' : D), ρ'[i]? = some (some (.o d')) → ρ[i]? = some (some (.o d'))
theorem noO_N (k : Nat) : NoO (gN k) := fun d ρ ρ' h i d' ho => by
  cases h
  by_cases e : k = i
  · subst e
    rw [List.getElem?_set] at ho
    simp only [if_true] at ho
    split at ho
    · cases ho
    · cases ho
  · rw [List.getElem?_set_ne e] at ho
    exact ho
theorem noOs_nil : NoOs gNil0 := fun d ρ ρ' h i d' ho => by
  unfold gNil0 at h
  split at h
  · cases h; exact ho
  · cases h
theorem noOs_cons {g : D → Ev → Option Ev} {gs : List D → Ev → Option Ev} (h1 : NoO g) (h2 : NoOs gs) : NoOs (gCons0 g gs) := fun d ρ ρ' h i d' ho => by
  unfold gCons0 at h
  split at h
  · obtain ⟨ρ1, e1, e2⟩ := Option.bind_eq_some_iff.mp h
    exact h1 _ _ _ e1 i d' (h2 _ _ _ e2 i d' ho)
  · cases h
theorem noO_T {gs : List D → Ev → Option Ev} (h : NoOs gs) : NoO (gT gs) := fun d ρ ρ' e i d' ho => by
  unfold gT at e
  split at e
  · exact h _ _ _ e i d' ho
  · cases e
theorem EnvRel.wroteD {W : Wd} {H : Hp} {S : Src} {σ : St} {ρ : Ev} {a : Addr} {o : HO} (er : EnvRel W H σ ρ) (w : WRel W H S) (l : W.L a) (sp : ∀ (i : Nat) (d : D), ρ[i]? = some (some (.o d)) → σ[i]? ≠ some (some (.ref a))) : EnvRel W (upd H a o) σ ρ := by
  have ks : KeepS W H W (upd H a o) := .wrote l
  refine ⟨er.len, fun j c h => ?_, er.sep⟩
  obtain ⟨u, h1, h2⟩ := er.get j c h
  refine ⟨u, h1, ?_⟩
  cases c with
  | s d2 => exact Rep.step w ks h2
  | b d2 =>
    rcases h2 with r | ⟨b, e', n1, n2, n3, t'⟩
    · exact .inl (r.step w ks)
    · exact .inr ⟨b, e', n1, n2, n3, t'.step w ks fun o' h => by rw [upd_ne (fun z => n3 (by rw [z]; exact l))]; exact h⟩
  | o d2 =>
    obtain ⟨b, rfl, l', t'⟩ := h2
    have hb : b ≠ a := fun z => sp j d2 h (by rw [h1, z])
    exact ⟨b, rfl, l', t'.step w ks fun o' h => by rw [upd_ne hb]; exact h⟩
def compL2 (g : D → Ev → Option Ev) (ft : Ev → M Bool) (vs1 : List Nat) (fi1 : Ev → M (List D)) (g1 : D → Ev → Option Ev) (ft1 : Ev → M Bool) (fe : Ev → M D) : List D → Ev → M (List D)
  | [], _ => pure []
  | d :: ds, ρ => M.of (g d ρ) >>= fun ρ1 => ft ρ1 >>= fun b => (if b = true then fi1 ρ1 >>= fun es => compL g1 ft1 fe es (wipeE ρ1 vs1) else pure []) >>= fun xs => compL2 g ft vs1 fi1 g1 ft1 fe ds ρ >>= fun rest => pure (xs ++ rest)
def eLc2 (vs : List Nat) (fi : Ev → M (List D)) (g : D → Ev → Option Ev) (ft : Ev → M Bool) (vs1 : List Nat) (fi1 : Ev → M (List D)) (g1 : D → Ev → Option Ev) (ft1 : Ev → M Bool) (fe : Ev → M D) : Ev → M D := fun ρ => fi ρ >>= fun ds => compL2 g ft vs1 fi1 g1 ft1 fe ds (wipeE ρ vs) >>= fun ys => M.of (if ys.length ≤ sizeLine then some (.lst ys) else none)
section
variable {X : Cx} {fi fi1 : Ev → M (List D)} {g g1 : D → Ev → Option Ev} {ft ft1 : Ev → M Bool} {fe : Ev → M D} {wi wi1 : TI} {tgt tgt1 : TG} {tt tt1 : TT} {te : TE} {vs vs1 : List Nat}
theorem TNv.lc2 (hno : NoO g) (hi : TIc wi fi) (hg : TGv vs tgt g) (ht : TBv tt ft) (hi1 : TIs wi1 fi1) (hg1 : TGv vs1 tgt1 g1) (ht1 : TBv tt1 ft1) (he : TEv te fe) : TNv (tLc2 wi tgt tt wi1 tgt1 tt1 te vs vs1) (eLc2 vs fi g ft vs1 fi1 g1 ft1 fe) := by
  intro W σ H ρ S d S' Q w er hf k
  obtain ⟨ds, S1, h1, hf⟩ := M.bind_eq hf
  obtain ⟨ys, S2, h2, hf⟩ := M.bind_eq hf
  obtain ⟨hf, rfl⟩ := M.of_eq hf
  split at hf
  case isFalse => cases hf
  case isTrue hzz =>
  cases hf
  refine hi W σ H ρ S ds S1 _ w er h1 fun J H1 k1 w1 hz y => ?_
  intro D hD
  have hD0 : H D = none := by
    cases q : H D with
    | none => rfl
    | some o =>
      by_cases e1 : D = W.sa
      · rw [e1, w1.hs] at hD; cases hD
      · by_cases e2 : D = W.ca
        · rw [e2, w1.hc] at hD; cases hD
        · rw [k1 D o e1 e2 q] at hD; cases hD
  have wD : WRel (W.add D) (upd H1 D (.lst [])) S1 := w1.own hD trivial
  refine walk_it y.walk (fun i H2 => ∃ (S3 : Src) (us : List V) (zs rest : List EV.D), KeepC W H1 (W.add D) H2 ∧ WRel (W.add D) H2 S3 ∧ H2 D = some (.lst us) ∧ RepAll (W.add D).no (W.add D).sa H2 us zs ∧
    compL2 g ft vs1 fi1 g1 ft1 fe (ds.drop i) (wipeE ρ vs) S3 = some (rest, S2) ∧ zs ++ rest = ys) ⟨S1, [], [], ys, .add (keep_laid hD) hD, wD, upd_same, .nil, h2, rfl⟩ ?_ ?_ ?_
  · rintro i H2 hi ⟨S3, us, zs, rest, kc, w2, _⟩
    exact ⟨W.add D, S3, kc, w2⟩
  · rintro i x H2 H3 hi ⟨S3, us, zs, rest, kc, w2, hH, ra, hr, hy⟩ hY
    have hdd : ds.drop i = ds[i] :: ds.drop (i + 1) := List.drop_eq_getElem_cons hi
    rw [hdd] at hr
    obtain ⟨ρ1, S4, e1, hr⟩ := M.bind_eq hr
    obtain ⟨e0, rfl⟩ := M.of_eq e1
    obtain ⟨b, S5, e2, hr⟩ := M.bind_eq hr
    obtain ⟨xs, S6, e3, hr⟩ := M.bind_eq hr
    obtain ⟨rest', S7, e4, hr⟩ := M.bind_eq hr
    obtain ⟨rfl, rfl⟩ := M.pure_eq hr
    obtain ⟨k3, w3, r3⟩ := hY ds[i] (W.add D) S3 (List.getElem?_eq_getElem hi) kc w2
    have er2 : EnvRel (W.add D) H3 (wipe σ vs) (wipeE ρ vs) := ((er.keep w k1).step w1 kc).wipe vs |>.keep w2 k3
    have nD := w2.ne D (.inr (.inr rfl))
    have kc3 : KeepC W H1 (W.add D) H3 := kc.trans w2 w1 (.of k3)
    refine hg (W.add D) H3 S3 x ds[i] (wipe σ vs) (wipeE ρ vs) ρ1 _ w3 er2 r3 e0 fun σ2 er3 hw => ⟨hw.trans (wipe_wipe σ vs), ?_⟩
    have sepD : ∀ (i : Nat) (d : EV.D), ρ1[i]? = some (some (.o d)) → σ2[i]? ≠ some (some (.ref D)) := fun i d ho hs => by
      have h0 := hno _ _ _ e0 i d ho
      obtain ⟨v, h1, b, rfl, l, _⟩ := ((er.keep w k1).wipe vs).get i _ h0
      have hb : b ≠ D := fun z => by
        have m := w1.mu b (.inr l)
        rw [z, hD] at m
        exact m
      have h2 : (wipe σ2 vs)[i]? = some (some (.ref b)) := by rw [hw, wipe_wipe]; exact h1
      obtain ⟨h3, _⟩ := wipe_some h2
      rw [h3] at hs
      cases hs
      exact hb rfl
    refine ht (W.add D) σ2 H3 ρ1 S3 b S5 _ w3 er3 e2 fun H4 k4 w4 => ?_
    have kc4 : KeepC W H1 (W.add D) H4 := kc3.trans w3 w1 (.of k4)
    have hD4 : H4 D = some (.lst us) := k4 D _ nD.1 nD.2 (k3 D _ nD.1 nD.2 hH)
    have ra4 := (ra.keep w2 k3).keep w3 k4
    cases b with
    | false =>
      rw [if_neg Bool.false_ne_true] at e3 ⊢
      obtain ⟨rfl, rfl⟩ := M.pure_eq e3
      exact ⟨_, us, zs, rest', kc4, w4, hD4, ra4, e4, hy⟩
    | true =>
      rw [if_pos rfl] at e3 ⊢
      obtain ⟨es, S8, e5, e6⟩ := M.bind_eq e3
      have er4 := er3.keep w3 k4
      refine hi1 (W.add D) σ2 H4 ρ1 S5 es S8 _ w4 er4 e5 fun J1 H5 k5 w5 y1 => ?_
      have hD5 : H5 D = some (.lst us) := k5 D _ nD.1 nD.2 hD4
      have ra5 := ra4.keep w4 k5
      have kc5 : KeepC W H1 (W.add D) H5 := kc4.trans w4 w1 (.of k5)
      have er5 := er4.keep w4 k5
      have hyz : (zs ++ xs).length ≤ sizeLine := by
        have e := congrArg List.length hy
        simp only [List.length_append] at e ⊢
        omega
      refine walk_it y1.walk (fun j H6 => ∃ (S9 : Src) (us1 : List V) (zs1 rs : List EV.D), KeepC W H1 (W.add D) H6 ∧ KeepS (W.add D) H5 (W.add D) H6 ∧ EnvRel (W.add D) H6 σ2 ρ1 ∧ WRel (W.add D) H6 S9 ∧ H6 D = some (.lst us1) ∧ RepAll (W.add D).no (W.add D).sa H6 us1 zs1 ∧
        compL g1 ft1 fe (es.drop j) (wipeE ρ1 vs1) S9 = some (rs, S6) ∧ zs1 ++ rs = zs ++ xs) ⟨S8, us, zs, xs, kc5, .refl, er5, w5, hD5, ra5, e6, rfl⟩ ?_ ?_ ?_
      · rintro j H6 hj ⟨S9, us1, zs1, rs, kc6, ks6, er6, w6, _⟩
        exact ⟨W.add D, S9, ks6, w6⟩
      · rintro j x1 H6 H7 hj ⟨S9, us1, zs1, rs, kc6, ks6, er6, w6, hH6, ra6, hr6, hy6⟩ hY1
        have hdd1 : es.drop j = es[j] :: es.drop (j + 1) := List.drop_eq_getElem_cons hj
        rw [hdd1] at hr6
        obtain ⟨ρ2, S10, f1, hr6⟩ := M.bind_eq hr6
        obtain ⟨f0, rfl⟩ := M.of_eq f1
        obtain ⟨b1, S11, f2, hr6⟩ := M.bind_eq hr6
        obtain ⟨k7, w7, r7⟩ := hY1 es[j] (W.add D) S9 (List.getElem?_eq_getElem hj) ks6 w6
        have er7 : EnvRel (W.add D) H7 (wipe σ2 vs1) (wipeE ρ1 vs1) := (er6.wipe vs1).keep w6 k7
        have kc7 : KeepC W H1 (W.add D) H7 := kc6.trans w6 w1 (.of k7)
        refine hg1 (W.add D) H7 S9 x1 es[j] (wipe σ2 vs1) (wipeE ρ1 vs1) ρ2 _ w7 er7 r7 f0 fun σ3 er8 hw8 => ⟨hw8.trans (wipe_wipe σ2 vs1), ?_⟩
        refine ht1 (W.add D) σ3 H7 ρ2 S9 b1 S11 _ w7 er8 f2 fun H8 k8 w8 => ?_
        have kc8 : KeepC W H1 (W.add D) H8 := kc7.trans w7 w1 (.of k8)
        have ks8 : KeepS (W.add D) H5 (W.add D) H8 := (ks6.trans w6 w5 (.of k7)).trans w7 w5 (.of k8)
        have hD8 : H8 D = some (.lst us1) := k8 D _ nD.1 nD.2 (k7 D _ nD.1 nD.2 hH6)
        have ra8 := (ra6.keep w6 k7).keep w7 k8
        have er8' := (er6.keep w6 k7).keep w7 k8
        cases b1 with
        | false =>
          rw [if_neg Bool.false_ne_true] at hr6 ⊢
          exact ⟨S11, us1, zs1, rs, kc8, ks8, er8', w8, hD8, ra8, hr6, hy6⟩
        | true =>
          rw [if_pos rfl] at hr6 ⊢
          obtain ⟨z, S12, f3, hr6⟩ := M.bind_eq hr6
          obtain ⟨rs', S13, f4, hr6⟩ := M.bind_eq hr6
          obtain ⟨rfl, rfl⟩ := M.pure_eq hr6
          refine he (W.add D) σ3 H8 ρ2 S11 z S12 _ w8 (er8.keep w7 k8) f3 fun v H9 k9 w9 r9 => ?_
          have hD9 : H9 D = some (.lst us1) := k9 D _ nD.1 nD.2 hD8
          have kc9 : KeepC W H1 (W.add D) H9 := kc8.trans w8 w1 (.of k9)
          have ra9 := ra8.keep w8 k9
          have ks : KeepS (W.add D) H9 (W.add D) (upd H9 D (.lst (us1 ++ [v]))) := .wrote (.inr rfl)
          have er9 := er8'.keep w8 k9
          have hl9 : us1.length < sizeLine := by
            rw [ra9.length]
            rw [← hy6] at hyz
            simp only [List.length_append, List.length_cons] at hyz
            omega
          refine ⟨us1, hD9, hl9, S12, us1 ++ [v], zs1 ++ [z], rs', ⟨rfl, rfl, rfl, fun _ h => .inl h, kc9.ln, fun a o n1 n2 h => ?_⟩, (ks8.trans w8 w5 (.of k9)).trans w9 w5 ks, ?_, w9.wrote (.inr rfl) trivial, upd_same, (ra9.append (.cons r9 .nil)).step w9 ks, f4, by rw [List.append_assoc]; exact hy6⟩
          · have : a ≠ D := by rintro rfl; rw [hD] at h; cases h
            rw [upd_ne this]
            exact kc9.k a o n1 n2 h
          · exact er9.wroteD w9 (.inr rfl) sepD
      · rintro H6 ⟨S9, us1, zs1, rs, kc6, ks6, er6, w6, hH6, ra6, hr6, hy6⟩
        rw [List.drop_length] at hr6
        obtain ⟨rfl, rfl⟩ := M.pure_eq hr6
        rw [List.append_nil] at hy6
        subst hy6
        exact ⟨_, us1, zs ++ xs, rest', kc6, w6, hH6, ra6, e4, by rw [List.append_assoc]; exact hy⟩
  · rintro H2 ⟨S3, us, zs, rest, kc, w2, hH, ra, hr, hy⟩
    rw [List.drop_length] at hr
    obtain ⟨rfl, rfl⟩ := M.pure_eq hr
    rw [List.append_nil] at hy
    subst hy
    exact k D H2 hD0 (k1.trans kc.k) w2 ⟨us, hH, by rw [ra.length]; exact hzz, ra⟩
variable {elt tg iter tg1 iter1 : Expr} {ifs ifs1 : List Expr} {scope : Scope} {own : List (Str × Nat)} {pos : Pos}
theorem en_lc2 (hno : NoO g) (hN : X.N.Nodup) (hc : X.calm = true) (ok : blkC X.N X.env.scope scope own = true) (hv : ∀ i ∈ vs1, i ∈ own.map (·.2)) (hi : ItC X tg iter fi)
    (hg : ∀ (s : Shared) (H : Hp) (C : Addr) (cl : List (Str × Addr)) (fp : List Addr), EG (X.blk s H scope (compEnvC scope cl C X.env) fp) tg (own.map (·.2)) g)
    (ht : ∀ (s : Shared) (H : Hp) (C : Addr) (cl : List (Str × Addr)) (fp : List Addr), ETs (X.blk s H scope (compEnvC scope cl C X.env) fp) ifs ft)
    (hi1 : ∀ (s : Shared) (H : Hp) (C : Addr) (cl : List (Str × Addr)) (fp : List Addr), ItS (X.blk s H scope (compEnvC scope cl C X.env) fp) tg1 iter1 fi1)
    (hg1 : ∀ (s : Shared) (H : Hp) (C : Addr) (cl : List (Str × Addr)) (fp : List Addr), EG (X.blk s H scope (compEnvC scope cl C X.env) fp) tg1 vs1 g1)
    (ht1 : ∀ (s : Shared) (H : Hp) (C : Addr) (cl : List (Str × Addr)) (fp : List Addr), ETs (X.blk s H scope (compEnvC scope cl C X.env) fp) ifs1 ft1)
    (he : ∀ (s : Shared) (H : Hp) (C : Addr) (cl : List (Str × Addr)) (fp : List Addr), EE (X.blk s H scope (compEnvC scope cl C X.env) fp) elt fe)
    (hs : ∀ x, foldedSetIterable iter X.env x = pure x := by intro _; rfl) (hs1 : ∀ env x, foldedSetIterable iter1 env x = pure x := by intro _ _; rfl) : EN X (.ListComp elt [⟨tg, iter, ifs, 0⟩, ⟨tg1, iter1, ifs1, 0⟩] scope pos) (eLc2 (own.map (·.2)) fi g ft vs1 fi1 g1 ft1 fe) := by
  obtain ⟨wi, p1, q1⟩ := hi.ex
  exact ⟨_, pe_lc2 hc hN p1 (blkOk_by ok) hv (fun s H C cl fp => (hg s H C cl fp).max) (fun s H C cl fp => (ht s H C cl fp).max) (fun s H C cl fp => (hi1 s H C cl fp).max) (fun s H C cl fp => (hg1 s H C cl fp).max) (fun s H C cl fp => (ht1 s H C cl fp).max) (fun s H C cl fp => (he s H C cl fp).max) hs hs1, TNv.lc2 hno q1 (tG_v _ _) (tT_v _) (tIs_v _) (tG_v _ _) (tT_v _) (tE_v _)⟩
theorem ss_lc2 {i : Nat} {y : Str} {py : Pos} {spos : Pos} {b : Bool} (hno : NoO g) (hN : X.N.Nodup) (hc : X.calm = true) (ok : blkC X.N X.env.scope scope own = true) (hv : ∀ i ∈ vs1, i ∈ own.map (·.2)) (hi : ItC X tg iter fi)
    (hg : ∀ (s : Shared) (H : Hp) (C : Addr) (cl : List (Str × Addr)) (fp : List Addr), EG (X.blk s H scope (compEnvC scope cl C X.env) fp) tg (own.map (·.2)) g)
    (ht : ∀ (s : Shared) (H : Hp) (C : Addr) (cl : List (Str × Addr)) (fp : List Addr), ETs (X.blk s H scope (compEnvC scope cl C X.env) fp) ifs ft)
    (hi1 : ∀ (s : Shared) (H : Hp) (C : Addr) (cl : List (Str × Addr)) (fp : List Addr), ItS (X.blk s H scope (compEnvC scope cl C X.env) fp) tg1 iter1 fi1)
    (hg1 : ∀ (s : Shared) (H : Hp) (C : Addr) (cl : List (Str × Addr)) (fp : List Addr), EG (X.blk s H scope (compEnvC scope cl C X.env) fp) tg1 vs1 g1)
    (ht1 : ∀ (s : Shared) (H : Hp) (C : Addr) (cl : List (Str × Addr)) (fp : List Addr), ETs (X.blk s H scope (compEnvC scope cl C X.env) fp) ifs1 ft1)
    (he : ∀ (s : Shared) (H : Hp) (C : Addr) (cl : List (Str × Addr)) (fp : List Addr), EE (X.blk s H scope (compEnvC scope cl C X.env) fp) elt fe)
    (hb : b = true) (hsw : swapsWith (.ListComp elt [⟨tg, iter, ifs, 0⟩, ⟨tg1, iter1, ifs1, 0⟩] scope pos) (some (.Name y py)) spos.line X.env = pure true)
    (hy : X.N[i]? = some y := by rfl) (hyl : X.env.scope.names.lookup y = some .local := by rfl) (hs : ∀ x, foldedSetIterable iter X.env x = pure x := by intro _; rfl) (hs1 : ∀ env x, foldedSetIterable iter1 env x = pure x := by intro _ _; rfl) :
    SS X (.Assign [.Name y py] (.ListComp elt [⟨tg, iter, ifs, 0⟩, ⟨tg1, iter1, ifs1, 0⟩] scope pos) spos) (sSet i (eLc2 (own.map (·.2)) fi g ft vs1 fi1 g1 ft1 fe)) ∧
      SS X (.Assign [.Name y py] (.ListComp elt [⟨tg, iter, ifs, 0⟩, ⟨tg1, iter1, ifs1, 0⟩] scope pos) spos) (sOwn i (eLc2 (own.map (·.2)) fi g ft vs1 fi1 g1 ft1 fe)) := by
  obtain ⟨wi, p1, q1⟩ := hi.ex
  have h := ps_setLc2 hc hN hy hyl hsw p1 (blkOk_by ok) hv (fun s H C cl fp => (hg s H C cl fp).max) (fun s H C cl fp => (ht s H C cl fp).max) (fun s H C cl fp => (hi1 s H C cl fp).max) (fun s H C cl fp => (hg1 s H C cl fp).max) (fun s H C cl fp => (ht1 s H C cl fp).max) (fun s H C cl fp => (he s H C cl fp).max) hs hs1
  have q : TNv _ (eLc2 (own.map (·.2)) fi g ft vs1 fi1 g1 ft1 fe) := TNv.lc2 hno q1 (tG_v _ _) (tT_v _) (tIs_v _) (tG_v _ _) (tT_v _) (tE_v _)
  exact ⟨ss_set_of h q.ee, ss_own_of h q⟩
end
end L2.EV

/-! EV, part AB: list.pop(i); what is popped in passing: `a.append(b.pop(i))`, `return [b.pop(i) for ..]`. -/
namespace L2.EV
open PySem PySem.Spec PyProof.Rows

def hPopAt : D → List D → Option (D × D) := fun d ds => match d, ds with
  | .lst xs, [.int i] => if -(2 ^ 63) ≤ i ∧ i < 2 ^ 63 then (seqIndex? i xs.length).bind fun k => (xs[k]?).map fun y => (.lst (xs.eraseIdx k), y) else none
  | _, _ => none
theorem ty_popAt {K : PySem.W.Frag} : TyOk K "list" hPopAt := ty_list fun d ds p h => by
  unfold hPopAt at h
  split at h
  · exact ⟨_, rfl⟩
  · cases h
theorem RepAll.eraseIdx {N : Addr → Prop} {sa : Addr} {H : Hp} : ∀ {vs : List V} {ds : List D} (k : Nat), RepAll N sa H vs ds → RepAll N sa H (vs.eraseIdx k) (ds.eraseIdx k)
  | _, _, _, .nil => .nil
  | _, _, 0, .cons _ t => t
  | _, _, k + 1, .cons r t => .cons r (RepAll.eraseIdx k t)
theorem mv_popAt : MethV [true] rPopAt hPopAt := by
  intro W H S a d0 vs ds d1 rt Q w l t ar h k
  unfold hPopAt at h
  split at h
  · rename_i xs i
    split at h
    · rename_i c
      obtain ⟨j, h1, h2⟩ := Option.bind_eq_some_iff.mp h
      obtain ⟨y, h3, h4⟩ := Option.map_eq_some_iff.mp h2
      cases h4
      obtain ⟨us, hH, z, r⟩ := t
      cases ar with
      | b r1 ar =>
        cases ar
        obtain ⟨v, e1, r2⟩ := r.get h3
        rw [← r.length] at h1
        refine ⟨a, us, i, j, v, rfl, by rw [r1.int], hH, c.1, c.2, h1, e1, k _ _ trivial ⟨_, upd_same, ?_, (r.eraseIdx j).step w (.wrote l)⟩ (r2.step w (.wrote l))⟩
        have := List.length_eraseIdx_le us j
        omega
    · cases h
  · cases h

/-! ### a method in passing -/
def KeepX (W : Wd) (H H' : Hp) (a : Addr) : Prop := ∀ b o, b ≠ W.sa → b ≠ W.ca → b ≠ a → H b = some o → H' b = some o
theorem KeepX.s {W : Wd} {H H' : Hp} {a : Addr} (k : KeepX W H H' a) (l : W.L a) : KeepS W H W H' := ⟨rfl, rfl, rfl, fun _ h => .inl h, fun b o n h1 h2 h => k b o h1 h2 (fun e => n (by rw [e]; exact l)) h⟩
section
variable {ms : List Bool} {r : V → List V → Hp → VK → Prop} {h : D → List D → Option (D × D)} {f : Ev → M (List D)} {T : String} {K : PySem.W.Frag}
theorem meth_coreX (hm : MethV ms r h) (ht : TyOk K T h) {i : Nat} {W : Wd} {σ : St} {H : Hp} {ρ : Ev} {S S' : Src} {ds : List D} {d0 d1 rt : D} {Q : VK} (w : WRel W H S) (er : EnvRel W H σ ρ) (h1 : f ρ S = some (ds, S')) (h2 : ownAt ρ i = some d0) (h3 : h d0 ds = some (d1, rt))
    (k : ∀ v H' a, σ[i]? = some (some (.ref a)) → W.L a → KeepX W H H' a → WRel W H' S' → EnvRel W H' σ (ρ.set i (some (.o d1))) → Top W H' a d1 → Rep W.no W.sa H' v rt → Q v H') : tBM K T r (tVar i) (tA ms f) σ H Q := by
  obtain ⟨v, hv, a, rfl, l, t⟩ := er.get i _ (ownAt_eq h2)
  refine ⟨.ref a, hv, ht W H a d0 ds _ (w.ml a l) t h3, tA_v ms f W σ H ρ S ds S' _ w er h1 fun vs H1 k1 w1 r1 => ?_⟩
  have n := w.ne a (.inr l)
  refine hm W H1 S' a d0 vs ds d1 rt _ w1 l (t.keep w k1 n.1 n.2) r1 h3 fun o v mu t1 r1 => ?_
  exact k v _ a hv l (fun b o h1 h2 h3 hb => by rw [upd_ne h3]; exact k1 b o h1 h2 hb) (w1.wrote l mu) ((er.keep w k1).wrote w1 (ownAt_eq h2) hv l mu t1) t1 r1
/-- the owned cell's content has changed -/
theorem EnvRel.swap {W : Wd} {H H' : Hp} {S S' : Src} {σ : St} {ρ : Ev} {i : Nat} {a : Addr} {d d1 : D} (er : EnvRel W H σ ρ) (w : WRel W H S) (w' : WRel W H' S') (e : ρ[i]? = some (some (.o d))) (hv : σ[i]? = some (some (.ref a))) (l : W.L a) (kx : KeepX W H H' a) (t : Top W H' a d1) :
    EnvRel W H' σ (ρ.set i (some (.o d1))) := by
  have hi : i < ρ.length := (List.getElem?_eq_some_iff.mp e).1
  have ks : KeepS W H W H' := kx.s l
  refine ⟨by simp [er.len], fun j c h => ?_, fun j k b e1 e2 h1 h2 h3 h4 => ?_⟩
  · by_cases hj : i = j
    · subst hj
      rw [List.getElem?_set_self hi] at h
      cases h
      exact ⟨.ref a, hv, a, rfl, l, t⟩
    · rw [List.getElem?_set_ne hj] at h
      obtain ⟨u, h1, h2⟩ := er.get j c h
      refine ⟨u, h1, ?_⟩
      cases c with
      | s d2 => exact Rep.step w ks h2
      | b d2 =>
        rcases h2 with r | ⟨b, e', n1, n2, n3, t'⟩
        · exact .inl (r.step w ks)
        · exact .inr ⟨b, e', n1, n2, n3, t'.step w ks fun o' h => kx b o' n1 n2 (fun z => n3 (by rw [z]; exact l)) h⟩
      | o d2 =>
        obtain ⟨b, rfl, l', t'⟩ := h2
        have hb : b ≠ a := fun z => hj (er.sep i j a d d2 e h hv (by rw [z] at h1; exact h1))
        have n := w.ne b (.inr l')
        exact ⟨b, rfl, l', t'.step w ks fun o' h => kx b o' n.1 n.2 hb h⟩
  · have g : ∀ (q : Nat) (x : D), (ρ.set i (some (Cell.o d1)))[q]? = some (some (Cell.o x)) → ∃ x' : D, ρ[q]? = some (some (Cell.o x')) := fun q x hq => by
      by_cases z : i = q
      · subst z; exact ⟨d, e⟩
      · rw [List.getElem?_set_ne z] at hq; exact ⟨x, hq⟩
    obtain ⟨x1, g1⟩ := g j e1 h1
    obtain ⟨x2, g2⟩ := g k e2 h2
    exact er.sep j k b x1 x2 g1 g2 h3 h4
end
/-- a.append(b.pop(..)) -/
def sAppPop (j i : Nat) (fa : Ev → M (List D)) : Ev → M Out := fun ρ => fa ρ >>= fun ds => M.of ((ownAt ρ i).bind fun d0 => (hPopAt d0 ds).bind fun p => (ownAt (ρ.set i (some (.o p.1))) j).bind fun e0 => (hAppend e0 [p.2]).map fun q => Out.nx ((ρ.set i (some (.o p.1))).set j (some (.o q.1))))
theorem ss_appPop {X : Cx} {st : Stmt} {f : Ev → M (List D)} (j i : Nat) (hij : i ≠ j) (hp : PS X st (tDrop (tBM X.K "list" rAppend (tVar j) (tCons (tBM X.K "list" rPopAt (tVar i) (tA [true] f)) (fun σ H Q => Q [] H))))) : SS X st (sAppPop j i f) := by
  refine ⟨_, hp, fun W σ H ρ S o S' E w er hf k => ?_⟩
  obtain ⟨ds, S1, h1, hf⟩ := M.bind_eq hf
  obtain ⟨h2, rfl⟩ := M.of_eq hf
  obtain ⟨d0, g2, g3⟩ := Option.bind_eq_some_iff.mp h2
  obtain ⟨⟨d1, rt⟩, g4, g5⟩ := Option.bind_eq_some_iff.mp g3
  obtain ⟨e0, g6, g7⟩ := Option.bind_eq_some_iff.mp g5
  obtain ⟨⟨e1, rt2⟩, g8, rfl⟩ := Option.map_eq_some_iff.mp g7
  have hj : ρ[j]? = some (some (.o e0)) := by
    have := ownAt_eq g6
    rw [List.getElem?_set_ne hij] at this
    exact this
  obtain ⟨v, hv, a, rfl, l, t⟩ := er.get j _ hj
  refine ⟨.ref a, hv, ty_append W H a e0 [rt] _ (w.ml a l) t g8, ?_⟩
  refine meth_coreX mv_popAt ty_popAt w er h1 g2 g4 fun v1 H1 b hb lb kx w1 er1 t1 r1 => ?_
  have hba : a ≠ b := fun z => by
    subst z
    exact hij (er.sep i j a d0 e0 (ownAt_eq g2) hj hb hv)
  obtain ⟨v2, hv2, a2, ea, l2, t2⟩ := er1.get j _ (ownAt_eq g6)
  rw [hv] at hv2
  cases hv2
  cases ea
  refine mv_append W H1 _ a e0 [v1] [rt] e1 rt2 _ w1 l2 t2 (.s r1 .nil) g8 fun o v3 mu t3 r3 => ?_
  exact k W σ _ ((kx.s lb).trans w1 w (.wrote l)) (w1.wrote l mu) (er1.wrote w1 (ownAt_eq g6) hv l mu t3)
/-- [b.pop(..) for ..] -/
def popC (g : D → Ev → Option Ev) (fa : Ev → M (List D)) (i : Nat) : List D → Ev → M (List D)
  | [], _ => pure []
  | d :: ds, ρ => M.of (g d ρ) >>= fun ρ1 => fa ρ1 >>= fun as => M.of ((ownAt ρ1 i).bind fun d0 => hPopAt d0 as) >>= fun p => popC g fa i ds (ρ.set i (some (.o p.1))) >>= fun ys => pure (p.2 :: ys)
def sRetPop (i : Nat) (vs : List Nat) (fi : Ev → M (List D)) (g : D → Ev → Option Ev) (fa : Ev → M (List D)) : Ev → M Out := fun ρ => fi ρ >>= fun ds => popC g fa i ds (wipeE ρ vs) >>= fun ys => M.of (if ds.length ≤ sizeLine then some (.rt (.lst ys)) else none)
theorem wipeE_set (i : Nat) (x : Option Cell) : ∀ (vs : List Nat) (ρ : Ev), i ∉ vs → wipeE (ρ.set i x) vs = (wipeE ρ vs).set i x
  | [], _, _ => rfl
  | v :: vs, ρ, h => by
    have h1 : i ≠ v := fun e => h (by rw [e]; exact List.mem_cons_self)
    have h2 : i ∉ vs := fun m => h (List.mem_cons_of_mem _ m)
    show (wipeE (ρ.set i x) vs).set v none = ((wipeE ρ vs).set v none).set i x
    rw [wipeE_set i x vs _ h2, List.set_comm _ _ h1]
theorem ss_retPop {X : Cx} {st : Stmt} {fi : Ev → M (List D)} {g : D → Ev → Option Ev} {f : Ev → M (List D)} {wi : TI} {tgt : TG} {vs : List Nat} (i : Nat) (hi : i ∉ vs) (hno : NoO g) (hti : TIs wi fi) (hg : TGv vs tgt g)
    (hp : PS X st (tRet (tLc wi tgt (tT bYes) (tBM X.K "list" rPopAt (tVar i) (tA [true] f)) vs))) : SS X st (sRetPop i vs fi g f) := by
  refine ⟨_, hp, fun W σ H ρ S o S' E w er hf k => ?_⟩
  obtain ⟨ds, S1, h1, hf⟩ := M.bind_eq hf
  obtain ⟨ys, S2, h2, hf⟩ := M.bind_eq hf
  obtain ⟨hf, rfl⟩ := M.of_eq hf
  split at hf
  case isFalse => cases hf
  case isTrue hzz =>
  cases hf
  refine hti W σ H ρ S ds S1 _ w er h1 fun J H1 k1 w1 y => ?_
  intro D hD
  have hD0 : H D = none := by
    cases q : H D with
    | none => rfl
    | some o =>
      by_cases e1 : D = W.sa
      · rw [e1, w1.hs] at hD; cases hD
      · by_cases e2 : D = W.ca
        · rw [e2, w1.hc] at hD; cases hD
        · rw [k1 D o e1 e2 q] at hD; cases hD
  have wD : WRel (W.add D) (upd H1 D (.lst [])) S1 := w1.own hD trivial
  have er1 : EnvRel W H1 σ ρ := er.keep w k1
  have sep1 : ∀ (j : Nat) (d : EV.D), ρ[j]? = some (some (.o d)) → σ[j]? ≠ some (some (.ref D)) := fun j d ho hs => by
    obtain ⟨v, h1, b, rfl, l, _⟩ := er1.get j _ ho
    have m := w1.mu b (.inr l)
    rw [h1] at hs
    cases hs
    rw [hD] at m
    exact m
  have ks0 : KeepS W H1 (W.add D) (upd H1 D (.lst [])) := (KeepC.add (keep_laid hD) hD).s
  have erD : EnvRel (W.add D) (upd H1 D (.lst [])) σ ρ := er1.step w1 (KeepC.add (keep_laid hD) hD)
  refine walk_it y.walk (fun m H2 => ∃ (S3 : Src) (us : List V) (zs rest : List EV.D) (ρ2 : Ev), KeepS W H1 (W.add D) H2 ∧ WRel (W.add D) H2 S3 ∧ H2 D = some (.lst us) ∧ us.length = m ∧ RepAll (W.add D).no (W.add D).sa H2 us zs ∧
    EnvRel (W.add D) H2 σ ρ2 ∧ (∀ (j : Nat) (d : EV.D), ρ2[j]? = some (some (.o d)) → σ[j]? ≠ some (some (.ref D))) ∧ popC g f i (ds.drop m) (wipeE ρ2 vs) S3 = some (rest, S2) ∧ zs ++ rest = ys) ⟨S1, [], [], ys, ρ, ks0, wD, upd_same, rfl, .nil, erD, sep1, h2, rfl⟩ ?_ ?_ ?_
  · rintro m H2 hk ⟨S3, us, zs, rest, ρ2, ks, w2, _⟩
    exact ⟨W.add D, S3, ks, w2⟩
  · rintro m x H2 H3 hk ⟨S3, us, zs, rest, ρ2, ks, w2, hH, hl, ra, er2, sep2, hr, hy⟩ hY
    have hdd : ds.drop m = ds[m] :: ds.drop (m + 1) := List.drop_eq_getElem_cons hk
    rw [hdd] at hr
    obtain ⟨ρ1, S4, e1, hr⟩ := M.bind_eq hr
    obtain ⟨e0, rfl⟩ := M.of_eq e1
    obtain ⟨as, S5, e2, hr⟩ := M.bind_eq hr
    obtain ⟨p, S6, e8, hr⟩ := M.bind_eq hr
    obtain ⟨e3, rfl⟩ := M.of_eq e8
    obtain ⟨ys', S7, e4, hr⟩ := M.bind_eq hr
    obtain ⟨rfl, rfl⟩ := M.pure_eq hr
    obtain ⟨d0, q1, q2⟩ := Option.bind_eq_some_iff.mp e3
    obtain ⟨k3, w3, r3⟩ := hY ds[m] (W.add D) S3 (List.getElem?_eq_getElem hk) ks w2
    have nD := w2.ne D (.inr (.inr rfl))
    have er3 := er2.keep w2 k3
    refine hg (W.add D) H3 S3 x ds[m] (wipe σ vs) (wipeE ρ2 vs) ρ1 _ w3 (er3.wipe vs) r3 e0 fun σ2 er4 hw => ⟨hw.trans (wipe_wipe σ vs), ?_⟩
    refine tT_v bYes (W.add D) σ2 H3 ρ1 S3 true S3 _ w3 er4 rfl fun H4 k4 w4 => ?_
    rw [if_pos rfl]
    have hi0 := hno _ _ _ e0 i d0 (ownAt_eq q1)
    have er4' := er4.keep w3 k4
    refine meth_coreX mv_popAt ty_popAt w4 er4' e2 q1 q2 fun v H5 a hv l kx w5 er5 t5 r5 => ?_
    -- the cell's own place
    have hi2 : ρ2[i]? = some (some (.o d0)) := by
      have g0 : ∀ (js : List Nat) (ρ : Ev), i ∉ js → (wipeE ρ js)[i]? = ρ[i]? := fun js => by
        induction js with
        | nil => exact fun ρ _ => rfl
        | cons j js ih =>
          intro ρ hn
          show ((wipeE ρ js).set j none)[i]? = _
          rw [List.getElem?_set_ne (fun e => hn (by rw [e]; exact List.mem_cons_self)), ih _ fun m => hn (List.mem_cons_of_mem _ m)]
      rw [g0 vs ρ2 hi] at hi0
      exact hi0
    obtain ⟨v0, hs0, a0, rfl, l0, _⟩ := er2.get i _ hi2
    have hs2 : σ2[i]? = some (some (.ref a0)) := by
      have z : (wipe σ2 vs)[i]? = some (some (V.ref a0)) := by
        rw [hw, wipe_wipe, wipe_out hi]
        exact hs0
      exact (wipe_some z).1
    rw [hs2] at hv
    cases hv
    have hab : a ≠ D := fun z => sep2 i d0 hi2 (by rw [hs0, z])
    have hD4 : H4 D = some (.lst us) := k4 D _ nD.1 nD.2 (k3 D _ nD.1 nD.2 hH)
    have hD5 : H5 D = some (.lst us) := kx D _ nD.1 nD.2 (Ne.symm hab) hD4
    have er6 : EnvRel (W.add D) H5 σ (ρ2.set i (some (.o p.1))) := (er3.keep w3 k4).swap w4 w5 hi2 hs0 l kx t5
    have ra5 : RepAll (W.add D).no (W.add D).sa H5 us zs := ((ra.keep w2 k3).keep w3 k4).step w4 (kx.s l)
    have ks5 : KeepS W H1 (W.add D) H5 := (((ks.trans w2 w1 (.of k3)).trans w3 w1 (.of k4)).trans w4 w1 (kx.s l))
    have sep6 : ∀ (j : Nat) (d : EV.D), (ρ2.set i (some (.o p.1)))[j]? = some (some (.o d)) → σ[j]? ≠ some (some (.ref D)) := fun j d hj => by
      by_cases z : i = j
      · subst z
        exact sep2 i d0 hi2
      · rw [List.getElem?_set_ne z] at hj
        exact sep2 j d hj
    have kw : KeepS (W.add D) H5 (W.add D) (upd H5 D (.lst (us ++ [v]))) := .wrote (.inr rfl)
    refine ⟨us, hD5, by omega, _, us ++ [v], zs ++ [p.2], ys', ρ2.set i (some (.o p.1)), ks5.trans w5 w1 kw, w5.wrote (.inr rfl) trivial, upd_same, by rw [List.length_append]; simp [hl], (ra5.append (.cons r5 .nil)).step w5 kw, er6.wroteD w5 (.inr rfl) sep6, sep6, ?_, by rw [List.append_assoc]; exact hy⟩
    rw [wipeE_set i _ vs _ hi]
    exact e4
  · rintro H2 ⟨S3, us, zs, rest, ρ2, ks, w2, hH, hl, ra, er2, sep2, hr, hy⟩
    rw [List.drop_length] at hr
    obtain ⟨rfl, rfl⟩ := M.pure_eq hr
    rw [List.append_nil] at hy
    subst hy
    have ks2 : KeepS W H W H2 := ⟨rfl, rfl, rfl, fun _ h => .inl h, fun b o n1 n2 n3 hb => ks.k b o n1 n2 n3 (k1 b o n2 n3 hb)⟩
    refine k W (.ref D) H2 ks2 w2.unadd (.lst hH (new_no w hD0) (by omega) (ra.weakN no_add))
/-- return [b.pop(..) for tg in iter] -/
theorem ss_anyOrder {X : Cx} {elt tg iter : Expr} {scope : Scope} {own : List (Str × Nat)} {pos pos2 : Pos} {fi : Ev → M (List D)} {g : D → Ev → Option Ev} {f : Ev → M (List D)} (i : Nat) (hi : i ∉ own.map (·.2)) (hno : NoO g) (hN : X.N.Nodup) (hc : X.calm = true) (ok : blkC X.N X.env.scope scope own = true) (hit : ItS X tg iter fi)
    (hg : ∀ (s : Shared) (H : Hp) (C : Addr) (cl : List (Str × Addr)) (fp : List Addr), EG (X.blk s H scope (compEnvC scope cl C X.env) fp) tg (own.map (·.2)) g)
    (he : ∀ (s : Shared) (H : Hp) (C : Addr) (cl : List (Str × Addr)) (fp : List Addr), PE (X.blk s H scope (compEnvC scope cl C X.env) fp) elt (tBM X.K "list" rPopAt (tVar i) (tA [true] f)))
    (hs : ∀ x, foldedSetIterable iter X.env x = pure x := by intro _; rfl) : SS X (.Return (some (.ListComp elt [⟨tg, iter, [], 0⟩] scope pos)) pos2) (sRetPop i (own.map (·.2)) fi g f) := by
  obtain ⟨wi, p1, q1⟩ := hit.ex
  exact ss_retPop i hi hno q1 (tG_v _ _) (ps_ret (pe_lc hc hN p1 (blkOk_by ok) (fun s H C cl fp => (hg s H C cl fp).max) (fun s H C cl fp => ets_nil.max) he hs))
end L2.EV

/-! EV, part AC: `x = [.. for t in a[y.pop()] ..]`. -/
namespace L2.EV
open PySem PySem.Spec PyProof.Rows

theorem meth_core0X {r : V → List V → Hp → VK → Prop} {h : D → List D → Option (D × D)} {T : String} {K : PySem.W.Frag} (hm : MethV [] r h) (ht : TyOk K T h) {i : Nat} {W : Wd} {σ : St} {H : Hp} {ρ : Ev} {S : Src} {d0 d1 rt : D} {Q : VK} (w : WRel W H S) (er : EnvRel W H σ ρ) (h2 : ownAt ρ i = some d0) (h3 : h d0 [] = some (d1, rt))
    (k : ∀ v H' a, W.L a → KeepX W H H' a → WRel W H' S → EnvRel W H' σ (ρ.set i (some (.o d1))) → Rep W.no W.sa H' v rt → Q v H') : tBM0 K T r (tVar i) σ H Q := by
  obtain ⟨v, hv, a, rfl, l, t⟩ := er.get i _ (ownAt_eq h2)
  refine ⟨.ref a, hv, ht W H a d0 [] _ (w.ml a l) t h3, ?_⟩
  refine hm W H S a d0 [] [] d1 rt _ w l t .nil h3 fun o v mu t1 r1 => ?_
  exact k v _ a l (fun b o h1 h2 h3 hb => by rw [upd_ne h3]; exact hb) (w.wrote l mu) (er.wrote w (ownAt_eq h2) hv l mu t1) r1
/-- a comprehension from what is walked on -/
theorem lc_tail {g : D → Ev → Option Ev} {ft : Ev → M Bool} {fe : Ev → M D} {tgt : TG} {tt : TT} {te : TE} {vs : List Nat} (hg : TGv vs tgt g) (ht : TBv tt ft) (he : TEv te fe) {W : Wd} {H1 : Hp} {σ : St} {ρ : Ev} {S1 S2 : Src} {J : It} {ds ys : List D} {Qd : V → Hp → Prop} (w1 : WRel W H1 S1) (er1 : EnvRel W H1 σ ρ) (hz : ds.length ≤ sizeLine)
    (y : Yields (fun W2 H2 => KeepC W H1 W2 H2) J ds) (h2 : compL g ft fe ds (wipeE ρ vs) S1 = some (ys, S2)) (k : ∀ D H2, H1 D = none → KeepC W H1 (W.add D) H2 → WRel (W.add D) H2 S2 → Top (W.add D) H2 D (.lst ys) → Qd (.ref D) H2) :
    ∀ D, H1 D = none → ∃ W : Nat → Nat → Hp → Prop, (∃ m, W 0 m (upd H1 D (.lst []))) ∧ ∀ i m H, W i m H →
      (J.stop i H ∧ Qd (.ref D) H) ∨ (J.go i H ∧ ∃ Nx : Hp → Prop, (∀ H', Nx H' → ∃ m', m' < m ∧ W (i + 1) m' H') ∧ ∀ x H', J.yld i H x H' → tgt x (wipe σ vs) H' fun σ2 H2 => wipe σ2 vs = wipe σ vs ∧ tt σ2 H2 fun b H3 =>
        if b = true then te σ2 H3 fun y H4 => ∃ acc, H4 D = some (.lst acc) ∧ acc.length < sizeLine ∧ Nx (upd H4 D (.lst (acc ++ [y]))) else Nx H3) := by
  intro D hD
  have wD : WRel (W.add D) (upd H1 D (.lst [])) S1 := w1.own hD trivial
  refine lc_it (Qd := fun H => Qd (.ref D) H) y.walk (fun i H2 => ∃ (S3 : Src) (us : List V) (zs rest : List EV.D), KeepC W H1 (W.add D) H2 ∧ WRel (W.add D) H2 S3 ∧ H2 D = some (.lst us) ∧ us.length ≤ i ∧ RepAll (W.add D).no (W.add D).sa H2 us zs ∧
    compL g ft fe (ds.drop i) (wipeE ρ vs) S3 = some (rest, S2) ∧ zs ++ rest = ys) ⟨S1, [], [], ys, .add (keep_laid hD) hD, wD, upd_same, Nat.le_refl _, .nil, h2, rfl⟩ ?_ ?_ ?_
  · rintro i H2 hi ⟨S3, us, zs, rest, kc, w2, _⟩
    exact ⟨W.add D, S3, kc, w2⟩
  · rintro i x H2 H3 hi ⟨S3, us, zs, rest, kc, w2, hH, hl, ra, hr, hy⟩ hY
    have hdd : ds.drop i = ds[i] :: ds.drop (i + 1) := List.drop_eq_getElem_cons hi
    rw [hdd] at hr
    obtain ⟨ρ1, S4, e1, hr⟩ := M.bind_eq hr
    obtain ⟨e0, rfl⟩ := M.of_eq e1
    obtain ⟨b, S5, e2, hr⟩ := M.bind_eq hr
    obtain ⟨k3, w3, r3⟩ := hY ds[i] (W.add D) S3 (List.getElem?_eq_getElem hi) kc w2
    have er2 : EnvRel (W.add D) H3 (wipe σ vs) (wipeE ρ vs) := (er1.step w1 kc).wipe vs |>.keep w2 k3
    have nD := w2.ne D (.inr (.inr rfl))
    have kc3 : KeepC W H1 (W.add D) H3 := kc.trans w2 w1 (.of k3)
    refine hg (W.add D) H3 S3 x ds[i] (wipe σ vs) (wipeE ρ vs) ρ1 _ w3 er2 r3 e0 fun σ2 er3 hw => ⟨hw.trans (wipe_wipe σ vs), ?_⟩
    refine ht (W.add D) σ2 H3 ρ1 S3 b S5 _ w3 er3 e2 fun H4 k4 w4 => ?_
    have kc4 : KeepC W H1 (W.add D) H4 := kc3.trans w3 w1 (.of k4)
    cases b with
    | false =>
      rw [if_neg Bool.false_ne_true] at hr ⊢
      exact ⟨S5, us, zs, rest, kc4, w4, k4 D _ nD.1 nD.2 (k3 D _ nD.1 nD.2 hH), by omega, (ra.keep w2 k3).keep w3 k4, hr, hy⟩
    | true =>
      rw [if_pos rfl] at hr ⊢
      obtain ⟨z, S6, e3, hr⟩ := M.bind_eq hr
      obtain ⟨rest', S7, e4, hr⟩ := M.bind_eq hr
      obtain ⟨rfl, rfl⟩ := M.pure_eq hr
      refine he (W.add D) σ2 H4 ρ1 S5 z S6 _ w4 (er3.keep w3 k4) e3 fun v H5 k5 w5 r5 => ?_
      have hD5 : H5 D = some (.lst us) := k5 D _ nD.1 nD.2 (k4 D _ nD.1 nD.2 (k3 D _ nD.1 nD.2 hH))
      have kc5 : KeepC W H1 (W.add D) H5 := kc4.trans w4 w1 (.of k5)
      have ra5 := ((ra.keep w2 k3).keep w3 k4).keep w4 k5
      have ks : KeepS (W.add D) H5 (W.add D) (upd H5 D (.lst (us ++ [v]))) := .wrote (.inr rfl)
      refine ⟨us, hD5, by omega, S6, us ++ [v], zs ++ [z], rest', ⟨rfl, rfl, rfl, fun _ h => .inl h, kc5.ln, fun a o n1 n2 h => ?_⟩, w5.wrote (.inr rfl) trivial, upd_same, by rw [List.length_append]; simp; omega, (ra5.append (.cons r5 .nil)).step w5 ks, e4, by rw [List.append_assoc]; exact hy⟩
      have : a ≠ D := by rintro rfl; rw [hD] at h; cases h
      rw [upd_ne this]
      exact kc5.k a o n1 n2 h
  · rintro H2 ⟨S3, us, zs, rest, kc, w2, hH, hl, ra, hr, hy⟩
    rw [List.drop_length] at hr
    obtain ⟨rfl, rfl⟩ := M.pure_eq hr
    rw [List.append_nil] at hy
    subst hy
    exact k D H2 hD kc w2 ⟨us, hH, by omega, ra⟩
def lstOf : D → Option (List D)
  | .lst ds => some ds
  | _ => none
def sLcPop (i y : Nat) (vs : List Nat) (f : Ev → M D) (g : D → Ev → Option Ev) (ft : Ev → M Bool) (fe : Ev → M D) : Ev → M Out := fun ρ => f ρ >>= fun dA => M.of ((ownAt ρ y).bind fun d0 => (hPop d0 []).bind fun p => ((dIx dA p.2).bind lstOf).map fun ds => (ds, p.1)) >>= fun q =>
  compL g ft fe q.1 (wipeE (ρ.set y (some (.o q.2))) vs) >>= fun ys => pure (.nx ((ρ.set y (some (.o q.2))).set i (some (.s (.lst ys)))))
theorem ss_lcPop {X : Cx} {elt tg a : Expr} {ifs : List Expr} {scope : Scope} {own : List (Str × Nat)} {pos spos cpos apos p2 : Pos} {yn : Str} {nm : Str} {py : Pos} {f : Ev → M D} {g : D → Ev → Option Ev} {ft : Ev → M Bool} {fe : Ev → M D} {i : Nat} (y : Nat) {b : Bool} (hu : X.A.units + 1 < cLine) (hN : X.N.Nodup) (hc : X.calm = true) (ok : blkC X.N X.env.scope scope own = true) (ha : EE X a f)
    (hpop : PE X (.Call (.Attribute (.Name yn p2) "pop" apos) [] [] cpos) (tBM0 X.K "list" rPop (tVar y)))
    (hg : ∀ (s : Shared) (H : Hp) (C : Addr) (cl : List (Str × Addr)) (fp : List Addr), EG (X.blk s H scope (compEnvC scope cl C X.env) fp) tg (own.map (·.2)) g)
    (ht : ∀ (s : Shared) (H : Hp) (C : Addr) (cl : List (Str × Addr)) (fp : List Addr), ETs (X.blk s H scope (compEnvC scope cl C X.env) fp) ifs ft)
    (he : ∀ (s : Shared) (H : Hp) (C : Addr) (cl : List (Str × Addr)) (fp : List Addr), EE (X.blk s H scope (compEnvC scope cl C X.env) fp) elt fe)
    (hb : b = true) {ipos : Pos} (hsw : swapsWith (.ListComp elt [⟨tg, .Subscript a (.Call (.Attribute (.Name yn p2) "pop" apos) [] [] cpos) ipos, ifs, 0⟩] scope pos) (some (.Name nm py)) spos.line X.env = pure true)
    (hy : X.N[i]? = some nm := by rfl) (hyl : X.env.scope.names.lookup nm = some .local := by rfl) (hpx : PlainIx (.Call (.Attribute (.Name yn p2) "pop" apos) [] [] cpos) := by intro _ _; rfl) (hs : ∀ x, foldedSetIterable (.Subscript a (.Call (.Attribute (.Name yn p2) "pop" apos) [] [] cpos) ipos) X.env x = pure x := by intro _; rfl) :
    SS X (.Assign [.Name nm py] (.ListComp elt [⟨tg, .Subscript a (.Call (.Attribute (.Name yn p2) "pop" apos) [] [] cpos) ipos, ifs, 0⟩] scope pos) spos) (sLcPop i y (own.map (·.2)) f g ft fe) := by
  obtain ⟨ta, pa, qa⟩ := ha.ex
  refine ⟨_, ps_setLc hc hN hy hyl hsw (pi_list (pe_ix (ix_all hu) pa hpop hpx)) (blkOk_by ok) (fun s H C cl fp => (hg s H C cl fp).max) (fun s H C cl fp => (ht s H C cl fp).max) (fun s H C cl fp => (he s H C cl fp).max) hs, fun W σ H ρ S o S' E w er hf k => ?_⟩
  obtain ⟨dA, S1, h1, hf⟩ := M.bind_eq hf
  obtain ⟨q, S2, h9, hf⟩ := M.bind_eq hf
  obtain ⟨h2, rfl⟩ := M.of_eq h9
  obtain ⟨ys, S3, h3, hf⟩ := M.bind_eq hf
  obtain ⟨rfl, rfl⟩ := M.pure_eq hf
  obtain ⟨d0, g1, g2⟩ := Option.bind_eq_some_iff.mp h2
  obtain ⟨⟨d1, rt⟩, g3, g4⟩ := Option.bind_eq_some_iff.mp g2
  obtain ⟨ds, g5, rfl⟩ := Option.map_eq_some_iff.mp g4
  obtain ⟨dl, g6, g7⟩ := Option.bind_eq_some_iff.mp g5
  cases dl with
  | lst ds' =>
    cases g7
    refine qa W σ H ρ S dA _ _ w er h1 fun v H1 k1 w1 r1 => ?_
    refine meth_core0X mv_pop ty_pop w1 (er.keep w k1) g1 g3 fun v2 H2 a l kx w2 er2 r2 => ?_
    refine opv_ix W H2 _ v v2 dA rt _ _ w2 (.inl (r1.step w1 (kx.s l))) (.inl r2) g6 fun v3 H3 k3 w3 r3 => ?_
    cases r3 with
    | lst hH n z r =>
      refine ⟨_, rfl, ⟨_, .of hH⟩, ?_⟩
      refine lc_tail (Qd := fun v H' => E.nx (σ.set i (some v)) H') (tG_v _ _) (tT_v _) (tE_v _) w3 (er2.keep w2 k3) (by rw [← r.length]; exact z) (yields_lst fun W2 H2' S2' ks w2' => ⟨(stepN ks.s _ _ n hH).1, r.step w3 ks.s⟩) h3 fun D H4 hD kc w4 t4 => ?_
      have ks4 : KeepS W H W H4 := ⟨rfl, rfl, rfl, fun _ h => .inl h, fun b o n1 n2 n3 hb => kc.k b o n2 n3 (k3 b o n2 n3 (kx b o n2 n3 (fun e => n1 (by rw [e]; exact l)) (k1 b o n2 n3 hb)))⟩
      have kk : Keep W H3 H4 := kc.k
      have w4' := w4.unadd
      exact k W _ H4 ks4 w4' (((er2.keep w2 k3).keep w3 kk).sets (t4.rep (new_no w3 hD) no_add))
  | _ => cases g7
end L2.EV

/-! EV, part AD: `x, z = [y.pop()], b`. -/
namespace L2.EV
open PySem PySem.Spec PyProof.Rows

def sPopP (i j y : Nat) (f : Ev → M D) : Ev → M Out := fun ρ => M.of ((ownAt ρ y).bind fun d0 => hPop d0 []) >>= fun p => f (ρ.set y (some (.o p.1))) >>= fun d =>
  pure (.nx (setAllC [i, j] [.o (.lst [p.2]), .s d] (ρ.set y (some (.o p.1)))))
theorem ss_popP {X : Cx} {b : Expr} {f : Ev → M D} {x z yn : Str} {px pz pt pos p2 apos cpos lpos : Pos} {kt k2 pt2} (i j y : Nat) (hc : X.calm = true) (hN : X.N.Nodup) (hb : EE X b f)
    (hpop : PE X (.Call (.Attribute (.Name yn p2) "pop" apos) [] [] cpos) (tBM0 X.K "list" rPop (tVar y)))
    (hi : X.N[i]? = some x := by rfl) (hj : X.N[j]? = some z := by rfl) (hij : i ≠ j := by decide)
    (hx : X.env.scope.names.lookup x = some .local := by rfl) (hz : X.env.scope.names.lookup z = some .local := by rfl)
    (hw : swappedStores [.Tuple [.Name x px, .Name z pz] kt pt] (.Tuple [.List [.Call (.Attribute (.Name yn p2) "pop" apos) [] [] cpos] lpos, b] k2 pt2) X.env = pure (some [x, z]) := by rfl)
    (hs : swapsWithSole [.Tuple [.Name x px, .Name z pz] kt pt] (.Tuple [.List [.Call (.Attribute (.Name yn p2) "pop" apos) [] [] cpos] lpos, b] k2 pt2) pos.line X.env = pure false := by rfl) (hst : starEach [b] X.env = [(false, eval b X.env)] := by rfl) :
    SS X (.Assign [.Tuple [.Name x px, .Name z pz] kt pt] (.Tuple [.List [.Call (.Attribute (.Name yn p2) "pop" apos) [] [] cpos] lpos, b] k2 pt2) pos) (sPopP i j y f) := by
  obtain ⟨tb, pb, qb⟩ := hb.ex
  refine ⟨_, ps_par hc hN hi hj hij hx hz (pa_cons (pe_lst (pa_cons hpop pa_nil)) (pa_cons pb pa_nil hst)) hw hs, fun W σ H ρ S o S' E w er hf k => ?_⟩
  obtain ⟨q, S1, h9, hf⟩ := M.bind_eq hf
  obtain ⟨h2, rfl⟩ := M.of_eq h9
  obtain ⟨d, S2, h3, hf⟩ := M.bind_eq hf
  obtain ⟨rfl, rfl⟩ := M.pure_eq hf
  obtain ⟨d0, g1, g3⟩ := Option.bind_eq_some_iff.mp h2
  obtain ⟨d1, rt⟩ := q
  refine meth_core0X mv_pop ty_pop w er g1 g3 fun v2 H1 a l kx w1 er1 r1 => ?_
  have z1 : [v2].length ≤ sizeLine := by rw [sizeLine_eq]; show 1 ≤ _; decide
  refine ⟨z1, fun p hp => ?_⟩
  have t := top_lst w1 hp (.cons r1 .nil) z1
  have kc : KeepC W H1 (W.add p) (upd H1 p (.lst [v2])) := .add t.1 hp
  have er2 := er1.step w1 kc
  refine qb (W.add p) σ _ _ _ d S2 _ t.2.1 er2 h3 fun u H3 k3 w3 r3 => ?_
  have n := t.2.1.ne p (.inr (.inr rfl))
  have cells : Cells (W.add p) H3 W.L [.ref p, u] [.o (.lst [rt]), .s d] := .o (.inr rfl) (fun l => by
    have m := w1.mu p (.inr l)
    rw [hp] at m; exact m) (t.2.2.keep t.2.1 k3 n.1 n.2) (.s r3 .nil)
  have er3 := env_setAll cells (is := [i, j]) (er2.keep t.2.1 k3) (fun j d a h1 h2 => by
    obtain ⟨v, h3, a', e3, l, _⟩ := er1.get j _ h1
    rw [h2] at h3; cases h3
    cases e3
    exact l) rfl
  exact ⟨_, _, rfl, k (W.add p) _ H3 ((kx.s l).trans w1 w (kc.s.trans t.2.1 w1 (.of k3))) w3 er3⟩
end L2.EV

/-! EV, part AE: sorted(a tuple of data). -/
namespace L2.EV
open PySem PySem.Spec PyProof.Rows

section
variable {prog : Program} {w : World} {A : Around} {E : Value → Shared → Prop} {s : Shared}
/-- the heap behind a tuple's items are collected -/
def collH (h : Heap) (vs : List Value) : Heap := (h.push (seqObj "list" #[] 0)).update h.objs.size (Obj.mapSeq (· ++ vs.toArray))
theorem collH_old {h : Heap} {vs : List Value} {b : Addr} {o : Obj} (e : h.get? b = some o) : (collH h vs).get? b = some o := by
  unfold collH
  rw [Heap.get?_update_ne _ _ _ _ (Nat.ne_of_lt (Heap.lt_size e))]
  exact Heap.get?_push_of_some _ e
theorem coll_tup {a : Addr} {vs : List Value} {R : List Value → Shared → Prop} (ht : IsTup s.heap a vs.toArray) (hz : vs.length ≤ sizeLine) (h : R vs { s with heap := collH s.heap vs }) : wpAny (model prog w) A (collect (.ref a)) R E s := by
  obtain ⟨o, e1, e2, n, e3⟩ := id ht
  have e1' : (s.heap.push (seqObj "list" #[] 0)).get? a = some o := Heap.get?_push_of_some _ e1
  have e0 : (s.heap.push (seqObj "list" #[] 0)).get? s.heap.objs.size = some (seqObj "list" #[] 0) := Heap.get?_push_size _ rfl
  unfold collect; refine wpAny_bind (wpAny_runValue (codeAny_builtin entry_proto_collect' ?_))
  show wpAny (model prog w) _ (do again (.builtin "list.__iadd__" ⟨[← newList [], .ref a], []⟩)) _ _ s
  refine wpAny_bind (wpAny_newList (wpAny_pure ⟨Code.quiet_builtin _ (by decide +kernel), codeAny_builtin entry_list_iadd' ?_⟩))
  show wpAny (model prog w) _ (Builtin.List.listExtendWith (.ref s.heap.objs.size) (.ref a) (.ref s.heap.objs.size)) _ _ { s with heap := s.heap.push (seqObj "list" #[] 0) }
  unfold Builtin.List.listExtendWith; refine wpAny_bind (wpAny_typeOf (T := "tuple") ⟨o, e1', e2⟩ ?_)
  have et : (Value.type "tuple" == Value.type "tuple") = true := by rfl
  rw [if_pos (by rw [et, Bool.or_true])]
  refine wpAny_bind (listItems_at e1' e3 (wpAny_bind (listItems_at (xs := #[]) (n := 0) e0 rfl ?_)))
  rw [if_neg (by simp)]
  refine wpAny_bind (listUpdate_at (xs := #[]) (n := 0) e0 rfl ?_ (Nat.zero_le _) (by show (#[] ++ vs.toArray).size ≤ sizeLine + 1; rw [Array.size_append, List.size_toArray]; show 0 + vs.length ≤ _; omega))
  refine wpAny_pure ?_
  have el := get?_update_seq e0 (· ++ vs.toArray)
  show wpAny (model prog w) A (do let o ← load s.heap.objs.size; match o.data with | .seq xs _ => pure xs.toList | _ => unsupported "internal:collect") R E { s with heap := collH s.heap vs }
  refine wpAny_bind (wpAny_load el ?_)
  show wpAny (model prog w) A (pure ((#[] : Array Value) ++ vs.toArray).toList) R E _
  have ev : ((#[] : Array Value) ++ vs.toArray).toList = vs := by simp
  rw [ev]; exact wpAny_pure h
end
def rSortTp (K : PySem.W.Frag) : List V → Hp → VK → Prop := fun xs H Q => ∃ (a : Addr) (bs : List (V × D)), xs = [.ref a] ∧ H a = some (.tup (bs.map (·.1))) ∧ (∀ b ∈ bs, Dp K H b.1 (pyD b.2)) ∧ PySem.W.AllAlike (bs.map fun b => pyD b.2) ∧ PySem.W.Sortable (bs.map fun b => pyD b.2) ∧ (∀ b ∈ bs, (pyD b.2).depth ≤ 40) ∧
  ∀ p, H p = none → Q (.ref p) (upd H p (.lst ((bs.mergeSort (PySem.W.dataLe false fun b => pyD b.2)).map (·.1))))
theorem cr_sortTp {X : Cx} (hu : X.A.units + 64 < cLine) : CallR X (.builtin "sorted") (rSortTp X.K) := by
  intro pins s σ H xs us Q I r h
  obtain ⟨a, bs, rfl, hH, hd, hal, hs, hdp, q⟩ := h
  rw [Vals.ref1 r]
  obtain ⟨ks, hv, ht, hz⟩ := I.tuple (.of hH)
  rw [List.length_map] at hz
  have hkl : ks.length = bs.length := by have := hv.length; simpa using this.symm
  refine Calls.call_function_entry PyProof.Rows.kind_sorted PyProof.Rows.plain_sorted PyProof.Rows.entry_sorted (PyProof.Rows.args_sorted1 _) ?_
  unfold Builtin.«sorted»
  refine wpAny_bind (m := checkCount "sorted" 1 1 _) (wpAny_pure ?_)
  refine wpAny_bind (coll_tup ht (by omega) ?_)
  have hk' : ∀ b o, s.heap.get? b = some o → (collH s.heap ks).get? b = some o := fun b o e => collH_old e
  have I1 : Inv X pins σ H { s with heap := collH s.heap ks } := I.kept (t' := s.toks) hk'
  generalize collH s.heap ks = h' at hk' I1
  refine wpAny_bind (wpAny_newList ?_ (by rw [hkl]; exact hz))
  have hoL : (h'.push (seqObj "list" ks.toArray 0)).get? h'.objs.size = some (seqObj "list" ks.toArray 0) := Heap.get?_push_size _ rfl
  show wpAny _ _ _ _ _ { s with heap := h'.push (seqObj "list" ks.toArray 0) }
  have e := each_of (P := fun u b => RelV b.1 u) hv fun b hb u ru => ru
  have er := each_of (P := fun u b => ∃ as, Reads h' u (pyD b.2) as) hv fun b hb u ru => Dp.reads I1 _ _ _ (hd b hb) ru
  have er' : PySem.W.EachIs (fun v b => ∃ as, Reads (PySem.W.sortingHeap (h'.push (seqObj "list" ks.toArray 0)) h'.objs.size ks) v (pyD b.2) as) ks bs := er.mono fun _ _ ⟨as, r⟩ => ⟨as, PyProof.Rows.Reads.keeps (fun b o e => PySem.W.sortingHeap_old (Nat.ne_of_lt (Heap.lt_size e)) (Heap.get?_push_of_some _ e)) r⟩
  refine wpAny_bind (wpAny_holding (wpAny_call_entry PyProof.Rows.slot_list_sort ⟨_, hoL, rfl⟩ PyProof.Rows.entry_list_sort
    (PySem.W.list_sort_vals (s := { s with heap := h'.push (seqObj "list" ks.toArray 0) }) hoL (PySem.W.SortsAt.data (s := { s with heap := PySem.W.sortingHeap (h'.push (seqObj "list" ks.toArray 0)) h'.objs.size ks }) (PySem.W.each_map (R := fun v d => ∃ as, Reads (PySem.W.sortingHeap (h'.push (seqObj "list" ks.toArray 0)) h'.objs.size ks) v d as) (fun b : V × D => pyD b.2) er') hal hs (PySem.W.bound_map fun b hb => by have := hdp b hb; show X.A.units + 2 + _ < cLine; omega)) (by omega) ⟨.none, rfl, ?_⟩) (PyProof.Rows.args_list_sort _)))
  have eo := PySem.W.sortVals_data (h' := PySem.W.sortingHeap (h'.push (seqObj "list" ks.toArray 0)) h'.objs.size ks) false e er' hal
  generalize hout : PySem.W.sortVals (PySem.W.dataKind (PySem.W.sortingHeap (h'.push (seqObj "list" ks.toArray 0)) h'.objs.size ks) (bs.map fun b => pyD b.2)) false ks ks = out at eo ⊢
  obtain ⟨e', he'⟩ := PyProof.Rows.sortedHeap_at (vs := ks) (out := out.toArray) hoL
  have hv2 := vals_of_each eo
  have hlen2 : ((bs.mergeSort (PySem.W.dataLe false fun b => pyD b.2)).map (·.1)).length ≤ sizeLine := by rw [List.length_map, List.length_mergeSort]; exact hz
  refine wpAny_pure ⟨_, rfl, .ref h'.objs.size, upd H h'.objs.size (.lst _), I1.laid (t' := s.toks) (fun b u e => ?_) (Nat.le_refl _) ⟨hlen2, out, e', hv2, he'⟩, rfl, q _ (I1.hok.fresh (Nat.le_refl _))⟩
  have hb : b < h'.objs.size := Heap.lt_size e
  rw [PyProof.Rows.sortedHeap_old (Nat.ne_of_lt hb) (by rw [size_push']; exact Nat.lt_succ_of_lt hb)]
  exact Heap.get?_push_of_some _ e
open Classical in
noncomputable def dSortTp : List D → Option D
  | [.tup xs] => dSorted [.lst xs]
  | _ => none
theorem cv_sortTp {K : PySem.W.Frag} : CallV (rSortTp K) dSortTp := by
  intro W H S vs ds d Q w a h k
  unfold dSortTp at h
  split at h
  · rename_i xs
    unfold dSorted at h
    simp only at h
    split at h
    · rename_i c
      cases h
      obtain ⟨c1, c2, c3⟩ := c
      obtain ⟨v, rfl, r⟩ := a.one
      obtain ⟨p, us, rfl, hH, z, r⟩ := r.tup
      have e1 : (us.zip xs).map (·.1) = us := zip_fst r.length
      have e2 : (us.zip xs).map (·.2) = xs := zip_snd r.length
      have em : ((us.zip xs).map fun b => pyD b.2) = xs.map pyD := by
        conv => rhs; rw [← e2]
        rw [List.map_map]; rfl
      have rz := r.mem_zip
      have mem2 : ∀ b ∈ us.zip xs, b.2 ∈ xs := fun b hb => by rw [← e2]; exact List.mem_map_of_mem hb
      refine ⟨p, us.zip xs, rfl, by rw [e1]; exact hH, fun b hb => ?_, by rw [em]; exact c2, by rw [em]; exact c3, fun b hb => (c1 _ (mem2 b hb)).2, fun q hq => ?_⟩
      · have hs := (c1 _ (mem2 b hb)).1
        refine (rz b hb).dp ?_
        unfold pyD
        cases e : D.py b.2 with
        | none => rw [e] at hs; cases hs
        | some pp => rfl
      · have es : ((us.zip xs).mergeSort (PySem.W.dataLe false fun b => pyD b.2)).map (·.2) = xs.mergeSort (PySem.W.dataLe false pyD) := by
          have q := List.map_mergeSort (r := PySem.W.dataLe false fun b : V × D => pyD b.2) (s := PySem.W.dataLe false pyD) (f := fun b : V × D => b.2) (l := us.zip xs) (fun a _ b _ => rfl)
          rw [e2] at q
          exact q
        rw [← es] at k
        have rs : RepAll W.no W.sa H (((us.zip xs).mergeSort (PySem.W.dataLe false fun b => pyD b.2)).map (·.1)) (((us.zip xs).mergeSort (PySem.W.dataLe false fun b => pyD b.2)).map (·.2)) :=
          RepAll.of_pairs fun b hb => rz b (List.mem_mergeSort.mp hb)
        exact k _ _ (keep_laid hq) (w.laid hq) (rep_newL w rs (by rw [List.length_map, List.length_mergeSort]; rw [← e1, List.length_map] at z; exact z) hq)
    · cases h
  · cases h
end L2.EV

/-! EV, part AF: lists of tuples sorted, the empty one among them. -/
namespace L2.EV
open PySem PySem.Spec PyProof.Rows

section
open PySem.W PySem.SeqAt
variable {prog : Program} {w : World} {A : Around} {E : Value → Shared → Prop} {s : Shared}
theorem lt_tups {Q : Value → Shared → Prop} {l b : Addr} {xs ys : Array Value} {e r : Nat → Bool} (hl : s.heap.IsTuple l xs) (hb : s.heap.IsTuple b ys) (he : ∀ j (h1 : j < xs.size) (h2 : j < ys.size), EqAt A.in1 s xs[j] ys[j] (e j))
    (hr : ∀ j (h1 : j < xs.size) (h2 : j < ys.size), e j = false → RcLt A.in1 s xs[j] ys[j] (r j)) (h : Q (.bool (firstLt e r (decide (xs.size < ys.size)) (List.range (min xs.size ys.size)))) s) : wpAny (model prog w) A (call (.builtin "tuple.__lt__") [.ref l, .ref b]) Q E s := by
  obtain ⟨⟨c1, d1, t1, z1⟩, o1, e1, n1, g1⟩ := id hl
  obtain ⟨⟨c2, d2, t2, z2⟩, o2, e2, n2, g2⟩ := id hb
  simp only at e1 g1 e2 g2
  subst e1; subst g1; subst e2; subst g2
  exact call_meets F.slot_tuple_lt ⟨_, o1, rfl⟩ F.entry_tuple_lt (F.args_tuple_lt_2 _ _) (tuple_ltAt l b xs ys n1 n2 d1 d2 z1 z2 e r) ⟨o1, o2, he, hr, h⟩
theorem oneLt_tup {f : Bool} {xs ys : List PyData} {a b : Value} {as bs : List Addr} {Q : Bool → Shared → Prop} (ra : Reads s.heap a (.tuple xs) as) (rb : Reads s.heap b (.tuple ys) bs) (h : alike (.tuple xs) (.tuple ys) = true)
    (hu : A.units + min (PyData.tuple xs).depth (PyData.tuple ys).depth < cLine) (hq : Q (dataLt (.tuple xs) (.tuple ys)) s) : wpAny (model prog w) A (oneLt' f a b) Q E s := by
  cases f with
  | false => exact oneLt_alike (fun z => absurd z Bool.false_ne_true) ra rb h (fun z => nomatch z) hu hq
  | true =>
    have hal : alikeAll xs ys = true := by simpa [alike] using h
    cases ra with
    | @tuple l o vs n _ _ p1 p2 p3 p4 =>
      cases rb with
      | @tuple l' o' vs' n' _ _ k1 k2 k3 k4 =>
        have s1 : vs.size = xs.length := by simpa using SeqAt.ReadsAll.length _ _ _ p4
        have s2 : vs'.size = ys.length := by simpa using SeqAt.ReadsAll.length _ _ _ k4
        rw [dataLt_tuple, ← firstLt_toks xs ys hal, ← s1, ← s2] at hq
        rw [oneLt'_eq, if_pos rfl]
        have r0 : A.units < cLine := by omega
        have r1 : A.in1.units + min (PyData.depthAll xs) (PyData.depthAll ys) < cLine := by
          have := SeqAt.room_in hu
          exact this
        have q1 := fun j (j1 : j < vs.size) (j2 : j < vs'.size) => eqAt_alikeAll xs ys A.in1 s vs.toList vs'.toList _ _ p4 k4 hal r1 j (by simpa using j1) (by simpa using j2)
        have q2 := fun j (j1 : j < vs.size) (j2 : j < vs'.size) hj => rcLt_alikeAll xs ys A.in1 s vs.toList vs'.toList _ _ p4 k4 hal r1 j (by simpa using j1) (by simpa using j2) hj
        refine wpAny_bind (wpAny_cRoomFor r0 (wpAny_bind (wpAny_callSpecialIfBound?_slot (T := "tuple") ⟨_, p1, p2⟩ F.slot_tuple_lt ?_)))
        exact lt_tups ⟨_, p1, p2, _, p3⟩ ⟨_, k1, k2, _, k3⟩ (fun j j1 j2 => by simpa using q1 j j1 j2) (fun j j1 j2 hj => by simpa using q2 j j1 j2 hj) (wpAny_truthy_bool hq)
/-- has an item -/
def neB : PyData → Bool
  | .tuple (_ :: _) => true
  | _ => false
theorem first_mapM : ∀ {vs : List Value} {ds : List PyData} {Q : List (Option Value) → Shared → Prop}, EachIs (fun v d => ∃ as, Reads s.heap v d as) vs ds → (∀ d ∈ ds, ∃ xs, d = .tuple xs) → (∀ fs : List (Option Value), fs.map Option.isSome = ds.map neB → Q fs s) → wpAny (model prog w) A (vs.mapM firstOfTuple') Q E s
  | _, _, _, .nil, _, h => by rw [List.mapM_nil]; exact wpAny_pure (h [] rfl)
  | v :: vs, d :: ds, Q, .cons ⟨as, r⟩ t, ht, h => by
    obtain ⟨xs, rfl⟩ := ht d List.mem_cons_self
    rw [List.mapM_cons, kas_first_eq]
    cases r with
    | @tuple l o us n _ _ p1 p2 p3 p4 =>
      have sz : us.size = xs.length := by simpa using SeqAt.ReadsAll.length _ _ _ p4
      have e0 : (Value.type "tuple" != Value.type "tuple") = false := by rfl
      refine wpAny_bind (wpAny_bind (wpAny_typeOf (T := "tuple") ⟨o, p1, p2⟩ ?_))
      rw [e0, if_neg Bool.false_ne_true]
      refine wpAny_bind (listItems_at p1 p3 (wpAny_pure (wpAny_bind (first_mapM t (fun d hd => ht d (List.mem_cons_of_mem _ hd)) fun fs hf => wpAny_pure (h _ ?_)))))
      rw [List.map_cons, List.map_cons, hf]
      congr 1
      cases xs with
      | nil =>
        rw [Array.getElem?_eq_none (by rw [sz]; exact Nat.zero_le _)]; rfl
      | cons x xs =>
        rw [Array.getElem?_eq_getElem (by rw [sz, List.length_cons]; omega)]; rfl
noncomputable def kdOf (ds : List PyData) : SortKind := if (ds.head?.map neB) = some true then general' else oneType'
theorem keyLt_general (x y : Value) : keyLt' general' x y = oneLt' false x y := rfl
theorem kind_mixed {vs : List Value} {ds : List PyData} (e : EachIs (fun v d => ∃ as, Reads s.heap v d as) vs ds) (ht : ∀ d ∈ ds, ∃ xs, d = .tuple xs) (hn : ∃ d ∈ ds, neB d = false) {Q : SortKind → Shared → Prop} (q : Q (kdOf ds) s) : wpAny (model prog w) A (keyKind' vs.toArray) Q E s := by
  rw [keyKind'_eq, List.mapM_toArray, map_eq_pure_bind]
  refine wpAny_bind (wpAny_bind (first_mapM e ht fun fs hf => wpAny_pure ?_))
  have hall : ¬ (fs.toArray.all (·.isSome)) = true := by
    intro z
    rw [List.all_toArray] at z
    obtain ⟨d, hd, h0⟩ := hn
    have hm : false ∈ fs.map Option.isSome := by rw [hf, ← h0]; exact List.mem_map_of_mem hd
    obtain ⟨x, hx, hx0⟩ := List.mem_map.mp hm
    have := List.all_eq_true.mp z x hx
    rw [hx0] at this
    cases this
  rw [if_neg hall]
  have hhead : (fs.toArray[0]?.bind id).isSome = (decide (ds.head?.map neB = some true)) := by
    have h2 := congrArg List.head? hf
    rw [List.head?_map, List.head?_map] at h2
    have e3 : fs.toArray[0]? = fs.head? := by rw [List.getElem?_toArray, List.head?_eq_getElem?]
    rw [e3, ← h2]
    cases fs.head? with
    | none => rfl
    | some x => cases x <;> rfl
  unfold kdOf at q
  by_cases c : ds.head?.map neB = some true
  · rw [if_pos c] at q
    rw [if_pos (by rw [hhead, decide_eq_true c])]
    exact wpAny_pure q
  · rw [if_neg c] at q
    rw [if_neg (by rw [hhead, decide_eq_false c]; exact Bool.false_ne_true), oneTypeOnly'_eq, List.mapM_toArray, map_eq_pure_bind]
    have hT : ∀ v ∈ vs, ∀ (Q' : Value → Shared → Prop), Q' (Value.type "tuple") s → wpAny (model prog w) A (typeOf v) Q' E s := fun v hv Q' hq => by
      obtain ⟨d, hd, as, r⟩ := e.left v hv
      obtain ⟨xs, rfl⟩ := ht d hd
      exact (looks_reads (M := model prog w) r).here hq
    refine wpAny_bind (wpAny_bind (wpAny_bind (kas_mapM (r := Value.type "tuple") vs hT (wpAny_pure ?_))))
    have hv : ∃ v0 vr, vs = v0 :: vr := by
      cases e with
      | nil => obtain ⟨d, hd, _⟩ := hn; cases hd
      | cons _ _ => exact ⟨_, _, rfl⟩
    obtain ⟨v0, vr, rfl⟩ := hv
    have e0 : (List.map (fun _ => Value.type "tuple") (v0 :: vr)).toArray[0]? = some (Value.type "tuple") := by simp
    have ea : ((List.map (fun _ => Value.type "tuple") (v0 :: vr)).toArray.all fun x => x == Value.type "tuple") = true := by
      rw [List.all_toArray, List.all_map, List.all_eq_true]
      exact fun _ _ => rfl
    rw [e0]
    simp only [ea, if_true]
    exact wpAny_pure (wpAny_pure q)
def SortableE (ds : List PyData) : Prop := (∀ d ∈ ds, ∃ xs, d = .tuple xs) ∨ ∀ d ∈ ds, d ≠ .none ∧ ∀ xs, d ≠ .tuple xs
theorem sortsAt_E {vs : List Value} {ds : List PyData} (e : EachIs (fun v d => ∃ as, Reads s.heap v d as) vs ds) (hal : AllAlike ds) (hk : SortableE ds) (hu : ∀ d, d ∈ ds → A.units + d.depth < cLine) : SortsAt prog w A s (dataKind s.heap ds) vs := by
  rcases hk with ht | hn
  · by_cases c : ∃ d ∈ ds, neB d = false
    · refine ⟨fun v hv => ?_, kdOf ds, ?_, fun _ E Q q => kind_mixed e ht c q⟩
      · obtain ⟨d, hd, as, r⟩ := e.left v hv
        exact ⟨_, dataKind_some hal hd r⟩
      · intro E x y a b Q ha hb hq
        obtain ⟨d, as, hd, ra, rfl⟩ := dataKind_inv ha
        obtain ⟨d', bs, hd', rb, rfl⟩ := dataKind_inv hb
        obtain ⟨xs, rfl⟩ := ht d hd
        obtain ⟨ys, rfl⟩ := ht d' hd'
        have room : A.units + min (PyData.tuple xs).depth (PyData.tuple ys).depth < cLine := Nat.lt_of_le_of_lt (Nat.add_le_add_left (Nat.min_le_left _ _) _) (hu _ hd)
        unfold kdOf
        split
        · rw [keyLt_general]; exact oneLt_tup ra rb (hal _ hd _ hd') room hq
        · rw [keyLt'_oneType]; exact oneLt_tup ra rb (hal _ hd _ hd') room hq
    · refine SortsAt.data e hal (.inl fun d hd => ?_) hu
      obtain ⟨xs, rfl⟩ := ht d hd
      cases xs with
      | nil => exact absurd ⟨_, hd, rfl⟩ c
      | cons x r => exact ⟨x, r, rfl⟩
  · exact SortsAt.data e hal (.inr hn) hu
end
end L2.EV

/-! EV, part AG: sorted(a list of tuples, the empty one among them). -/
namespace L2.EV
open PySem PySem.Spec PyProof.Rows

def rSortE (K : PySem.W.Frag) : List V → Hp → VK → Prop := fun xs H Q => ∃ (a : Addr) (bs : List (V × D)), xs = [.ref a] ∧ H a = some (.lst (bs.map (·.1))) ∧ bs.length ≤ sizeLine ∧ (∀ b ∈ bs, Dp K H b.1 (pyD b.2)) ∧ PySem.W.AllAlike (bs.map fun b => pyD b.2) ∧
  SortableE (bs.map fun b => pyD b.2) ∧ (∀ b ∈ bs, (pyD b.2).depth ≤ 40) ∧ ∀ p, H p = none → Q (.ref p) (upd H p (.lst ((bs.mergeSort (PySem.W.dataLe false fun b => pyD b.2)).map (·.1))))
theorem cr_sortE {X : Cx} (hu : X.A.units + 64 < cLine) : CallR X (.builtin "sorted") (rSortE X.K) := by
  intro pins s σ H xs us Q I r h
  obtain ⟨a, bs, rfl, hH, hz, hd, hal, hs, hdp, q⟩ := h
  rw [Vals.ref1 r]
  obtain ⟨its, rv, hl, _⟩ := I.list (.of hH)
  have e := each_of (P := fun u b => RelV b.1 u) rv fun b hb u ru => ru
  have er := each_of (P := fun u b => ∃ as, Reads s.heap u (pyD b.2) as) rv fun b hb u ru => Dp.reads I _ _ _ (hd b hb) ru
  have er2 : PySem.W.EachIs (fun v b => ∃ as, Reads (PySem.W.sortingHeap (PySem.W.copyHeap s.heap its) (s.heap.objs.size + 1) its) v (pyD b.2) as) its bs := er.mono fun _ _ ⟨as, g⟩ => ⟨as, PyProof.Rows.Reads.keeps (fun _ _ => PySem.W.sorting_copy_old) g⟩
  have em := PySem.W.each_map (R := fun v d => ∃ as, Reads (PySem.W.sortingHeap (PySem.W.copyHeap s.heap its) (s.heap.objs.size + 1) its) v d as) (fun b : V × D => pyD b.2) er2
  have hb2 : ∀ d, d ∈ bs.map (fun b => pyD b.2) → X.A.in1.in1.units + d.depth < cLine := PySem.W.bound_map fun b hb => by
    have := hdp b hb
    show X.A.units + 2 + _ < cLine
    omega
  have SA := sortsAt_E (prog := X.prog) (w := X.w) (A := X.A.in1.in1) (s := { s with heap := PySem.W.sortingHeap (PySem.W.copyHeap s.heap its) (s.heap.objs.size + 1) its }) em hal hs hb2
  have hel := e.length
  have ho := PySem.W.sortVals_length false rfl (κ := PySem.W.dataKind (PySem.W.sortingHeap (PySem.W.copyHeap s.heap its) (s.heap.objs.size + 1) its) (bs.map fun b => pyD b.2)) (vs := its) (ks := its)
  have eo := PySem.W.sortVals_data false e er2 hal
  refine PySem.W.sorted_vals hl.isList SA (by omega) ?_
  generalize PySem.W.sortVals (PySem.W.dataKind (PySem.W.sortingHeap (PySem.W.copyHeap s.heap its) (s.heap.objs.size + 1) its) (bs.map fun b => pyD b.2)) false its its = out at eo ⊢
  obtain ⟨ep, he'⟩ := PyProof.Rows.sortedAll_at s.heap its out.toArray
  have hv := vals_of_each eo
  have hlen : ((bs.mergeSort (PySem.W.dataLe false fun b => pyD b.2)).map (·.1)).length ≤ sizeLine := by rw [List.length_map, List.length_mergeSort]; exact hz
  exact ⟨.ref _, upd H (s.heap.objs.size + 1) (.lst _), I.laid (t' := s.toks) (fun _ _ => PyProof.Rows.sortedAll_old) (Nat.le_succ _) ⟨hlen, out, ep, hv, he'⟩, rfl, q _ (I.hok.fresh (Nat.le_succ _))⟩
open Classical in
noncomputable def dSortedE : List D → Option D
  | [.lst xs] => if (∀ x ∈ xs, (D.py x).isSome = true ∧ (pyD x).depth ≤ 40) ∧ PySem.W.AllAlike (xs.map pyD) ∧ SortableE (xs.map pyD) then some (.lst (xs.mergeSort (PySem.W.dataLe false pyD))) else none
  | _ => none
theorem cv_sortE {K : PySem.W.Frag} : CallV (rSortE K) dSortedE := by
  intro W H S vs ds d Q w a h k
  unfold dSortedE at h
  split at h
  · rename_i xs
    split at h
    · rename_i c
      cases h
      obtain ⟨c1, c2, c3⟩ := c
      obtain ⟨v, rfl, r⟩ := a.one
      obtain ⟨p, us, rfl, hH, z, r, _⟩ := r.lst
      have e1 : (us.zip xs).map (·.1) = us := zip_fst r.length
      have e2 : (us.zip xs).map (·.2) = xs := zip_snd r.length
      have em : ((us.zip xs).map fun b => pyD b.2) = xs.map pyD := by
        conv => rhs; rw [← e2]
        rw [List.map_map]; rfl
      have rz := r.mem_zip
      have mem2 : ∀ b ∈ us.zip xs, b.2 ∈ xs := fun b hb => by rw [← e2]; exact List.mem_map_of_mem hb
      refine ⟨p, us.zip xs, rfl, by rw [e1]; exact hH, by rw [← e1, List.length_map] at z; exact z, fun b hb => ?_, by rw [em]; exact c2, by rw [em]; exact c3, fun b hb => (c1 _ (mem2 b hb)).2, fun q hq => ?_⟩
      · have hs := (c1 _ (mem2 b hb)).1
        refine (rz b hb).dp ?_
        unfold pyD
        cases e : D.py b.2 with
        | none => rw [e] at hs; cases hs
        | some pp => rfl
      · have es : ((us.zip xs).mergeSort (PySem.W.dataLe false fun b => pyD b.2)).map (·.2) = xs.mergeSort (PySem.W.dataLe false pyD) := by
          have q := List.map_mergeSort (r := PySem.W.dataLe false fun b : V × D => pyD b.2) (s := PySem.W.dataLe false pyD) (f := fun b : V × D => b.2) (l := us.zip xs) (fun a _ b _ => rfl)
          rw [e2] at q
          exact q
        rw [← es] at k
        have rs : RepAll W.no W.sa H (((us.zip xs).mergeSort (PySem.W.dataLe false fun b => pyD b.2)).map (·.1)) (((us.zip xs).mergeSort (PySem.W.dataLe false fun b => pyD b.2)).map (·.2)) :=
          RepAll.of_pairs fun b hb => rz b (List.mem_mergeSort.mp hb)
        exact k _ _ (keep_laid hq) (w.laid hq) (rep_newL w rs (by rw [List.length_map, List.length_mergeSort]; rw [← e1, List.length_map] at z; exact z) hq)
    · cases h
  · cases h
/-- lists of lots sorted -/
theorem sortedE_T (ls : List (List Nat)) : dSortedE [eL (eT eN) ls] = some (eL (eT eN) (ls.mergeSort (PySem.W.dataLe false ptN))) := by
  have c : (∀ x ∈ ls.map (eT eN), (D.py x).isSome = true ∧ (pyD x).depth ≤ 40) ∧ PySem.W.AllAlike ((ls.map (eT eN)).map pyD) ∧ SortableE ((ls.map (eT eN)).map pyD) := by
    refine ⟨fun x hx => ?_, fun d hd d' hd' => ?_, .inl fun d hd => ?_⟩
    · obtain ⟨l, _, rfl⟩ := List.mem_map.mp hx
      have := pt_depth l
      rw [py_T, pyD_T]
      exact ⟨rfl, by omega⟩
    · obtain ⟨x, hx, rfl⟩ := List.mem_map.mp hd
      obtain ⟨y, hy, rfl⟩ := List.mem_map.mp hd'
      obtain ⟨n, _, rfl⟩ := List.mem_map.mp hx
      obtain ⟨m, _, rfl⟩ := List.mem_map.mp hy
      rw [pyD_T, pyD_T]
      exact pt_alike n m
    · obtain ⟨x, hx, rfl⟩ := List.mem_map.mp hd
      obtain ⟨l, _, rfl⟩ := List.mem_map.mp hx
      rw [pyD_T]
      exact ⟨_, rfl⟩
  unfold dSortedE eL
  simp only
  rw [if_pos c]
  refine congrArg (fun z => some (D.lst z)) ?_
  exact (List.map_mergeSort (r := fun a b : List Nat => PySem.W.dataLe false ptN a b) (s := PySem.W.dataLe false pyD) (f := eT eN) (l := ls) fun a _ b _ => by
    show (!PySem.W.dataLt (ptN b) (ptN a)) = !PySem.W.dataLt (pyD (eT eN b)) (pyD (eT eN a))
    rw [pyD_T, pyD_T]).symm
end L2.EV

/-! EV, part AH: defs that ask repr (no guard set), powers, shifts. -/
namespace L2.EV
open PySem PySem.Spec PyProof.Rows

def dPow (x y : D) : Option D := match x, y with
  | .int i, .int j => if 0 ≤ j ∧ j ≤ 1000000 ∧ i.natAbs < 2 ^ 64 then some (.int (i ^ j.toNat)) else none
  | _, _ => none
def dShl (x y : D) : Option D := match x, y with
  | .int i, .int j => if 0 ≤ j ∧ j ≤ 1000000 ∧ i.natAbs < 2 ^ 64 then some (.int (i * 2 ^ j.toNat)) else none
  | _, _ => none
theorem opv_pow : OpV (rI CPow fun i j => .int (i ^ j.toNat)) dPow := by
  intro W H S v u x y d Q w rx ry h k
  unfold dPow at h
  split at h
  · rename_i i j
    split at h
    · rename_i c
      cases h
      exact ⟨i, j, rx.int, ry.int, c, k _ H (.refl _ _) w (.int _)⟩
    · cases h
  · cases h
theorem opv_shl : OpV (rI CPow fun i j => .int (i * 2 ^ j.toNat)) dShl := by
  intro W H S v u x y d Q w rx ry h k
  unfold dShl at h
  split at h
  · rename_i i j
    split at h
    · rename_i c
      cases h
      exact ⟨i, j, rx.int, ry.int, c, k _ H (.refl _ _) w (.int _)⟩
    · cases h
  · cases h
section
variable {X : Cx} {k : Nat} {f : Addr} {fd : FuncData} {ps : List Str} {sp : Sp} {ds : List Value} {dvs : List V} {E : XK}
theorem pe_callG {e : Expr} {es : List Expr} {x : Str} {p pos : Pos} {t : TA} (F : FnG X.prog X.w X.K X.mg X.base k f fd ps sp) (hgd : X.A.guards = some []) (hr : Room k X.A) (hg : Gl X x) (hm : X.mg x = some (.ref f)) (hk : PySem.W.keepIn X.K (.ref f) = true) (hb : Binds X.K fd ps ds) (hd : Vals dvs ds)
    (hx : Passes CX0 X E) (ha : PA X (e :: es) t) (hdb : (x == ("__debug__" : Str)) = false := by decide) (he : starEach (e :: es) X.env = (false, eval e X.env) :: starEach es X.env := by rfl) (hpl : (backTo pos (starEach es X.env)).any (·.1) = false := by rfl) :
    PE X (.Call (.Name x p) (e :: es) [] pos) (tCall sp dvs E t) := by
  refine ⟨fun pins s σ H Q I h => ?_⟩
  refine wpAny_Call_Name_kw (ld_glob I hg hm (PySem.W.callWith_K (h₀ := X.base) I.ok.mod.kin hk (thn (ha.run pos pins s σ H _ I h) fun us s1 z => ?_) he hpl) hdb)
  obtain ⟨vs, H1, I1, r, q⟩ := z
  refine ⟨I1.kIn, ?_⟩
  have r2 : Vals (vs ++ dvs) (us ++ ds) := r.append hd
  have hl := F.len _ _ _ _ q
  rw [r2.length] at hl
  refine wpAny_call (codeAny_mono (F.go X.A X.stack s1 H1 ⟨us, []⟩ (us ++ ds) (vs ++ dvs) _ E hgd hr I1.env0 (hb s1 us I1.kIn hl) r2 q) fun res s' hq => ?_)
  cases res with
  | error ex => exact hx pins σ H1 s1 ex s' I1 hq
  | ok fl =>
    cases fl with
    | ret u => exact I1.after hq
    | next => exact (show False from hq).elim
    | brk => exact (show False from hq).elim
    | cont => exact (show False from hq).elim
end
theorem FnG.mono {P : Program} {w : World} {K : PySem.W.Frag} {mg : Str → Option Value} {base : Heap} {j k : Nat} {f : Addr} {fd : FuncData} {ps : List Str} {sp : Sp} (F : FnG P w K mg base j f fd ps sp) (h : j ≤ k) : FnG P w K mg base k f fd ps sp :=
  ⟨F.len, fun A outer s H args us vs Q E hg hr => F.go A outer s H args us vs Q E hg (hr.mono h)⟩
structure FnVG (P : Program) (w : World) (K : PySem.W.Frag) (mg : Str → Option Value) (base : Heap) (k : Nat) (x : Str) (ms : List Bool) (m : List D → M D) : Prop where
  ex : ∃ (fa : Addr) (fd : FuncData) (ps : List Str), mg x = some (.ref fa) ∧ PySem.W.keepIn K (.ref fa) = true ∧ Binds K fd ps [] ∧ FnG P w K mg base k fa fd ps (spD ms m)
theorem FnVG.mono {P : Program} {w : World} {K : PySem.W.Frag} {mg : Str → Option Value} {base : Heap} {j k : Nat} {x : Str} {ms : List Bool} {m : List D → M D} (F : FnVG P w K mg base j x ms m) (h : j ≤ k) : FnVG P w K mg base k x ms m := by
  obtain ⟨fa, fd, ps, h1, h2, h3, h4⟩ := F.ex
  exact ⟨fa, fd, ps, h1, h2, h3, h4.mono h⟩
theorem ee_callG {X : Cx} {k : Nat} {x : Str} {ms : List Bool} {m : List D → M D} {e : Expr} {es : List Expr} {p pos : Pos} {f : Ev → M (List D)} (F : FnVG X.prog X.w X.K X.mg X.base k x ms m) (hgd : X.A.guards = some []) (hr : Room k X.A) (ha : EA X ms (e :: es) f) (hg : Gl X x := by rfl) (hdb : (x == ("__debug__" : Str)) = false := by decide)
    (he : starEach (e :: es) X.env = (false, eval e X.env) :: starEach es X.env := by rfl) (hpl : (backTo pos (starEach es X.env)).any (·.1) = false := by rfl) : EE X (.Call (.Name x p) (e :: es) [] pos) (eCallU m f) := by
  obtain ⟨fa, fd, ps, h1, h2, h3, h4⟩ := F.ex
  obtain ⟨t, p1, q1⟩ := ha.ex
  exact ⟨_, pe_callG h4 hgd hr hg h1 h2 h3 .nil pass0 p1 hdb he hpl, TEv.callU q1⟩
theorem fn_evG {P : Program} {w : World} {K : PySem.W.Frag} {mg : Str → Option Value} {base : Heap} {x qual : Str} {st : Stmt} {f : Addr} {fd : FuncData} {N ps : List Str} {k : Nat} {ms : List Bool} {fb : Ev → M Out} (F : Fun K x qual st f fd) (S : FnScope N ps (defScope st)) (hms : ms.length = ps.length)
    (body : ∀ (cdv : Value) (A : Around) (outer : List Env) (s : Shared) (H : Hp) (E : XK), A.guards = some [] → Room k (A.deeper (envOfC qual (defScope st) s.heap.objs.size f cdv)) → SSs (cxOf CX0 P w K mg base N qual (defScope st) f cdv A outer s H E).nox (defBody st) fb) :
    FnG P w K mg base (k + 1) f fd ps (spD ms (fnM N.length ms fb)) := by
  refine fnG_body F S (fun vs H Q E h => ?_) (fun cdv A outer s H vs Q E hg hr h => ?_)
  · obtain ⟨W, S, ds, d, S', _, _, a, _⟩ := h
    rw [a.len.1, hms]
  · obtain ⟨W, S0, ds, d, S', hl, w0, a, hf, k⟩ := h
    obtain ⟨t, p, q⟩ := (body cdv A outer s H E hg hr).ex
    obtain ⟨o, S1, e1, hf⟩ := M.bind_eq hf
    refine ⟨t, p, q W (start N vs) H (startE N.length ms ds) S0 o S1 _ w0 (env_start hl a) e1 ?_⟩
    have fin : ∀ {W' : Wd} {v : V} {H' : Hp} {d' : D}, KeepS W H W' H' → WRel W' H' S' → Rep W'.no W'.sa H' v d' → Keep W H H' ∧ WRel W H' S' ∧ Rep W.no W.sa H' v d' := by
      intro W' v H' d' ks w' r
      refine ⟨fun a o n1 n2 h => ks.k a o (hl a) n1 n2 h, ⟨by rw [← ks.sa, ← ks.ca]; exact w'.hs, by rw [← ks.ca]; exact w'.hc, fun a h => ?_, w0.ne, w0.ap, fun a h => absurd h (hl a)⟩, ?_⟩
      · rcases h with h | h
        · exact w'.mu a (.inl (by rw [ks.C]; exact h))
        · exact absurd h (hl a)
      · rw [← ks.sa]
        refine r.weakN fun a h => ?_
        rcases h with h | h | h | h
        · exact .inl (by rw [ks.C]; exact h)
        · exact absurd h (hl a)
        · exact .inr (.inr (.inl (by rw [ks.sa]; exact h)))
        · exact .inr (.inr (.inr (by rw [ks.ca]; exact h)))
    cases o with
    | nx ρ =>
      obtain ⟨rfl, rfl⟩ := M.pure_eq hf
      intro W' σ' H' ks w' er'
      obtain ⟨a1, a2, a3⟩ := fin (v := .non) (d' := .non) ks w' .non
      exact k _ H' a1 a2 a3
    | rt d' =>
      obtain ⟨rfl, rfl⟩ := M.pure_eq hf
      intro W' v H' ks w' r
      obtain ⟨a1, a2, a3⟩ := fin ks w' r
      exact k _ H' a1 a2 a3
    | bk _ => cases hf
    | ct _ => cases hf
theorem fn_vG {P : Program} {w : World} {K : PySem.W.Frag} {mg : Str → Option Value} {base : Heap} {x qual : Str} {st : Stmt} {f : Addr} {fd : FuncData} {ps : List Str} {k : Nat} {ms : List Bool} {m : List D → M D} (F : Fun K x qual st f fd) (hm : mg x = some (.ref f)) (hb : Binds K fd ps []) (h : FnG P w K mg base k f fd ps (spD ms m)) :
    FnVG P w K mg base k x ms m := ⟨f, fd, ps, hm, F.kp, hb, h⟩
end L2.EV

/-! EV, part AI: range with a step. -/
namespace L2.EV
open PySem PySem.Spec PyProof.Rows
def rangeC (lo c : Int) (n : Nat) : List D := (List.range n).map fun i => .int (lo + (i : Nat) * c)
def rng3 : List D → Option (List D)
  | [.int i, .int j, .int c] => if c ≠ 0 ∧ c.natAbs < 1073741824 ∧ Builtin.Range.small i j c = true ∧ Builtin.Range.rangeSize i j c = (Builtin.Range.rangeSize i j c).toNat then some (rangeC i c (Builtin.Range.rangeSize i j c).toNat) else none
  | _ => none
theorem rng3_eq {ds es : List D} (h : rng3 ds = some es) : ∃ (i j c : Int) (n : Nat), ds = [.int i, .int j, .int c] ∧ RgC i j c n ∧ es = rangeC i c n := by
  unfold rng3 at h
  split at h
  · split at h
    · rename_i i j c q
      cases h
      exact ⟨i, j, c, _, rfl, ⟨q.1, q.2.1, q.2.2.1, q.2.2.2⟩, rfl⟩
    · cases h
  · cases h
theorem yields_rangeC {lo c : Int} {n : Nat} {R : Wd → Hp → Prop} : Yields R (Itc lo c n) (rangeC lo c n) where
  go := fun i W H S hi r w => by unfold rangeC at hi; rw [List.length_map, List.length_range] at hi; exact hi
  stop := fun W H S r w => by
    show n ≤ (rangeC lo c n).length
    unfold rangeC; rw [List.length_map, List.length_range]; exact Nat.le_refl _
  yld := fun i d W H S x H' e r w y => by
    obtain ⟨rfl, rfl⟩ := y
    unfold rangeC at e
    rw [List.getElem?_map] at e
    cases q : (List.range n)[i]? with
    | none => rw [q] at e; cases e
    | some j =>
      rw [q] at e; cases e
      have hj : j = i := by
        rw [List.getElem?_range (by obtain ⟨h, _⟩ := List.getElem?_eq_some_iff.mp q; rw [List.length_range] at h; exact h)] at q
        exact (Option.some.inj q).symm
      subst hj
      exact ⟨.refl _ _, w, .int _⟩
section
variable {X : Cx} {tg a b c : Expr} {p pos : Pos} {ms : List Bool} {fa : Ev → M (List D)}
theorem is_rng3 (hm : X.mg "range" = none) (ha : EA X ms [a, b, c] fa) (hg : Gl X "range" := by rfl)
    (hs : starEach [a, b, c] X.env = (false, eval a X.env) :: starEach [b, c] X.env := by rfl) (hpl : (backTo pos (starEach [b, c] X.env)).any (·.1) = false := by rfl) : ItS X tg (.Call (.Name "range" p) [a, b, c] [] pos) (iRng rng3 fa) := by
  obtain ⟨t, p1, q1⟩ := ha.ex
  refine ⟨_, pi_range3 hg hm p1 hs hpl, fun W σ H ρ S ds S' R w er hf k => ?_⟩
  obtain ⟨d, S1, h1, hf⟩ := M.bind_eq hf
  obtain ⟨h2, rfl⟩ := M.of_eq hf
  obtain ⟨i, j, c, n, rfl, cc, rfl⟩ := rng3_eq h2
  refine q1 W σ H ρ S _ S1 _ w er h1 fun vs H1 k1 w1 r1 => ?_
  have r2 := r1.i
  cases r2 with
  | cons x1 r2 =>
    cases r2 with
    | cons x2 r2 =>
      cases r2 with
      | cons x3 r2 =>
        cases r2
        exact ⟨i, j, c, n, by rw [x1.int, x2.int, x3.int], cc, k _ H1 k1 w1 yields_rangeC⟩
end
theorem rng3_down (m : Nat) (h : m < 1000000) : rng3 [.int m, .int 0, .int (-1)] = some ((List.range m).map fun i => eN (m - i)) := by
  have q := RgC.neg (i := m) (j := 0) (by omega) (by omega) (by omega) (by omega)
  have e : ((m : Int) - 0).toNat = m := by omega
  rw [e] at q
  obtain ⟨c0, c1, c2, c3⟩ := q
  unfold rng3
  have e2 : (Builtin.Range.rangeSize m 0 (-1)).toNat = m := by rw [c3]; rfl
  simp only
  rw [if_pos ⟨c0, c1, c2, by rw [e2]; exact c3⟩, e2]
  unfold rangeC
  refine congrArg some (List.map_congr_left fun i hi => ?_)
  have := List.mem_range.mp hi
  exact congrArg D.int (show (m : Int) + (i : Nat) * (-1) = ((m - i : Nat) : Int) by omega)
end L2.EV

/-! EV, part AJ: the opening of the source without a list of its own. -/
namespace L2.EV
open PySem PySem.Spec PyProof.Rows

/-- slots 0 script, 1 mixed, 2 cell -/
def tOpen2 (K : PySem.W.Frag) : TS :=
  tSeq (tAsg (tC (.int 11)) (gName 1))
  (tSeq (tFor (iList K (tVar 0)) (gName 2) (tAsg (tOp rModI (tCB rInt1 (tCons (tOp rAddI (tOp rAddI (tOp rMulI (tVar 1) (tC (.int 69069))) (tOp rMulI (tVar 2) (tC (.int 31)))) (tC (.int 5))) tNil)) (tC (.int 2147483629))) (gName 1)))
  (tRet (tDisp [(tC (.str "cells"), tRevL K (tLc (iList K (tVar 0)) (gName 2) tYes (tCB rAbs1 (tCons (tVar 2) tNil)) [2])), (tC (.str "left"), tC (.int 1)), (tC (.str "mixed"), tVar 1), (tC (.str "turn"), tC (.int 0))])))
theorem open_sem2 {K : PySem.W.Frag} {a : Addr} {ns : List Int} {H : Hp} {Q : VK} {σ : St} {x1 x2 : Option V} (hσ : σ = [some (.ref a), x1, x2]) (hS : SqL K H a (ns.map V.int)) (hl : ns.length ≤ 63)
    (q : ∀ (H' : Hp) (sa ca : Addr) (S : Src), Same H H' → sa ≠ ca → H' sa = some (.dK (srcK ca S)) → H' ca = some (.lst (S.cells.map V.int)) → Q (.ref sa) H') {nx : St → Hp → Prop} : tOpen2 K { nx := nx, rt := Q } σ H := by
  subst hσ
  refine ⟨.ref a, rfl, a, rfl, ⟨_, hS⟩, ?_⟩
  refine for_it walk_list (fun i σ2 H2 => H2 = H ∧ ∃ (m : Int) (y : Option V), σ2 = [some (.ref a), some (.int m), y]) ⟨rfl, 11, _, rfl⟩ (fun i σ2 H2 _ h => by rw [h.1]; exact hS) ?_ ?_
  · rintro i x σ2 H2 H3 hi ⟨rfl, m, y, rfl⟩ ⟨rfl, hx⟩
    rw [List.length_map] at hi
    rw [List.getElem?_map, List.getElem?_eq_getElem hi] at hx
    cases hx
    refine ⟨.int m, rfl, m, 69069, rfl, rfl, .inr ⟨by decide, by decide⟩, .int ns[i], rfl, ns[i], 31, rfl, rfl, .inr ⟨by decide, by decide⟩, _, _, rfl, rfl, _, 5, rfl, rfl, .inl ⟨_, rfl, _, 2147483629, rfl, rfl, (by decide : (0 : Int) < 2147483629), ?_⟩⟩
    exact ⟨rfl, _, _, rfl⟩
  · rintro σ2 H2 ⟨rfl, m, y, rfl⟩
    intro p hp
    have s0 : Same H2 (upd H2 p (.dK [])) := fun b o e => upd_keep hp e
    refine ⟨.ref a, rfl, a, rfl, ⟨_, s0.seq hS⟩, fun D hD => ?_⟩
    have hDp : D ≠ p := fun e => by rw [e, upd_same] at hD; cases hD
    have sD : Same (upd H2 p (.dK [])) (upd (upd H2 p (.dK [])) D (.lst [])) := fun b o e => upd_keep hD e
    refine lc_it walk_list (fun i H3 => Same H2 H3 ∧ H3 p = some (.dK []) ∧ ∃ cs : List Int, H3 D = some (.lst (cs.map V.int)) ∧ cs.length = i) ⟨fun b o e => sD b o (s0 b o e), by rw [upd_ne (Ne.symm hDp), upd_same], [], upd_same, rfl⟩ (fun i H3 _ h => h.1.seq hS) ?_ ?_
    · rintro i x H3 H4 hi ⟨sm, hpp, cs, hH, hc⟩ ⟨rfl, hx⟩
      have hi' := hi
      rw [List.length_map] at hi'
      rw [List.getElem?_map, List.getElem?_eq_getElem hi'] at hx
      cases hx
      refine ⟨rfl, ?_⟩
      show tCB rAbs1 (tCons (tVar 2) tNil) _ H4 _
      refine ⟨.int ns[i], rfl, _, rfl, cs.map V.int, hH, ?_, fun b o e => ?_, ?_, cs ++ [if ns[i] < 0 then -ns[i] else ns[i]], ?_, by simp [hc]⟩
      · rw [List.length_map, hc]; exact Nat.lt_of_lt_of_le hi' (Nat.le_trans hl (by decide))
      · have hD2 : H2 D = none := by rw [upd_ne hDp] at hD; exact hD
        rw [upd_ne (ne_of_none e hD2)]; exact sm b o e
      · rw [upd_ne (Ne.symm hDp)]; exact hpp
      · rw [upd_same, List.map_append]; rfl
    · rintro H3 ⟨sm, hpp, cs, hH, hc⟩
      refine ⟨D, cs.map V.int, rfl, .of hH, fun c hc' => ?_⟩
      have hcp : c ≠ p := fun e => by rw [e, hpp] at hc'; cases hc'
      have hpc : p ≠ c := fun e => hcp e.symm
      have e1 : upd H3 c (.lst (cs.map V.int).reverse) p = some (.dK []) := by rw [upd_ne hpc, hpp]
      refine ⟨.int m, rfl, e1, [(.inr "cells", .ref c), (.inr "left", .int 1), (.inr "mixed", .int m), (.inr "turn", .int 0)], rfl, (by decide : 4 ≤ 15), ?_⟩
      refine q _ p c ⟨cs.reverse, 1, m, 0⟩ (fun b o e => ?_) hpc ?_ ?_
      · have h1 := sm b o e
        rw [upd_ne (ne_of_none e hp), upd_ne (fun z => by rw [z, hc'] at h1; cases h1)]
        exact h1
      · rw [upd_same, merge4]
        rfl
      · rw [upd_ne hcp, upd_same, List.map_reverse]
end L2.EV

/-! EV, part AK: empty dicts among the values: isinstance, repr, ==. -/
namespace L2.EV
open PySem PySem.Spec PyProof.Rows

/-! ### isinstance -/
def tyNameX : D → Option String
  | .dct false _ => some "dict"
  | d => tyName d
def AskedX (T : String) : Prop := Asked T ∧ kitB "dict" T = some (isaT "dict" T)
theorem askedX_int : AskedX "int" := ⟨asked_int, by decide +kernel⟩
theorem askedX_bool : AskedX "bool" := ⟨asked_bool, by decide +kernel⟩
theorem askedX_str : AskedX "str" := ⟨asked_str, by decide +kernel⟩
theorem askedX_tuple : AskedX "tuple" := ⟨asked_tuple, by decide +kernel⟩
theorem askedX_list : AskedX "list" := ⟨asked_list, by decide +kernel⟩
def eIsiX (T : String) (f : Ev → M D) : Ev → M D := fun ρ => f ρ >>= fun d => M.of ((tyNameX d).map fun t => .bl (isaT t T))
theorem rep_tyX {K : PySem.W.Frag} {W : Wd} {H : Hp} {S : Src} {v : V} {d : D} {t : String} (w : WRel W H S) (r : RepI W H v d) (h : tyNameX d = some t) : TyX K H v (.type t) ∧ (t ∈ tyNames ∨ t = "dict") := by
  have old : tyName d = some t → TyX K H v (.type t) ∧ (t ∈ tyNames ∨ t = "dict") := fun h => ⟨(rep_ty (K := K) w r h).1, .inl (rep_ty (K := K) w r h).2⟩
  cases d with
  | dct b kds =>
    cases b with
    | true => exact old h
    | false =>
      cases h
      rcases r with r | ⟨a, rfl, _, _, t⟩
      · cases r with
        | dK h1 _ _ _ =>
          rcases h1 with h1 | ⟨o, h1⟩
          · exact ⟨.base (.dK h1), .inr rfl⟩
          · exact ⟨.fDict h1, .inr rfl⟩
      · obtain ⟨us, hH, _⟩ := t
        rcases hH with h1 | ⟨o, h1⟩
        · exact ⟨.base (.dK h1), .inr rfl⟩
        · exact ⟨.fDict h1, .inr rfl⟩
  | _ => exact old h
section
variable {X : Cx} {e : Expr} {f : Ev → M D} {p p2 pos : Pos}
theorem ee_isiX {T : String} {x : Str} (hT : bootBuiltins x = some (.type T)) (aT : AskedX T) (hm : X.mg "isinstance" = none) (hmT : X.mg x = none) (ha : EI X e f) (hg : Gl X "isinstance" := by rfl) (hgT : Gl X x := by rfl)
    (hn : x ≠ "__name__" := by decide) (hd : (x == ("__debug__" : Str)) = false := by decide)
    (hs2 : starEach [.Name x p2] X.env = (false, eval (.Name x p2) X.env) :: starEach [] X.env := by rfl) (hs : starEach [e, .Name x p2] X.env = (false, eval e X.env) :: starEach [.Name x p2] X.env := by rfl)
    (hpl : (backTo pos (starEach [.Name x p2] X.env)).any (·.1) = false := by rfl) : EE X (.Call (.Name "isinstance" p) [e, .Name x p2] [] pos) (eIsiX T f) := by
  obtain ⟨t, p1, q1⟩ := ha.ex
  refine ⟨_, pe_callB call_isi hg hm boot_isinstance (pa_cons p1 (pa_cons (pe_bltn (v := .ty T) hgT hmT hT rfl hn hd) pa_nil hs2) hs) (by decide) (by decide) hs hpl, fun W σ H ρ S d S' Q w er hf k => ?_⟩
  obtain ⟨d1, S1, h1, hf⟩ := M.bind_eq hf
  obtain ⟨h2, rfl⟩ := M.of_eq hf
  obtain ⟨tn, h3, rfl⟩ := Option.map_eq_some_iff.mp h2
  refine q1 W σ H ρ S d1 S1 _ w er h1 fun v H1 k1 w1 r1 => ?_
  obtain ⟨ty, mem⟩ := rep_tyX (K := X.K) w1 r1 h3
  have hk : kitB tn T = some (isaT tn T) := by
    rcases mem with mem | rfl
    · exact aT.1 tn mem
    · exact aT.2
  exact ⟨v, .ty T, .type tn, .type T, _, rfl, .ty T, ty, kit_ty hk, k _ _ k1 w1 (.bl _)⟩
end

/-! ### tuples of empty dicts and simple values, read -/
mutual
def D.pyT : D → Option PyData
  | .non => some .none
  | .bl b => some (.bool b)
  | .int i => some (.int i)
  | .str x => some (.str x)
  | .tup xs => (pyTs xs).map .tuple
  | .dct false [] => some (.dict [])
  | _ => none
def pyTs : List D → Option (List PyData)
  | [] => some []
  | d :: ds => match D.pyT d, pyTs ds with
    | some p, some ps => some (p :: ps)
    | _, _ => none
end
section
variable {X : Cx} {pins : List (Addr × Obj)} {σ : St} {s : Shared} {H : Hp} {N : Addr → Prop} {sa : Addr}
theorem dk_reads (I : Inv X pins σ H s) {a : Addr} (h : Rd H a (.dK [])) : ∃ as, Reads s.heap (.ref a) (.dict []) as ∧ sysModules ∉ as := by
  obtain ⟨_, hs, vs, kv, o, es, ep, h1, h2, h3, _, h4, _⟩ := dk_rd I.hok h
  cases kv
  have hes : es.toList = [] := by
    cases h5 : es.toList with
    | nil => rfl
    | cons x xs => rw [h5] at h4; cases h4
  refine ⟨_, Reads.dict (kvs := []) h1 h2.1 h3 (by rw [hes]; exact ReadsAll.nil) (by rw [hes]; exact ReadsAll.nil), ?_⟩
  simp only [List.append_nil, List.mem_singleton]
  intro e
  rw [← e] at hs
  simp at hs
mutual
theorem Rep.readsT (I : Inv X pins σ H s) : ∀ (d : D) (v : V) (u : Value) (p : PyData), Rep N sa H v d → D.pyT d = some p → RelV v u → ∃ as, Reads s.heap u p as ∧ sysModules ∉ as
  | .non, _, _, _, h, e, r => by cases h; simp only [D.pyT, Option.some.injEq] at e; subst e; cases r; exact ⟨_, Reads.none, by simp⟩
  | .bl b, _, _, _, h, e, r => by cases h; simp only [D.pyT, Option.some.injEq] at e; subst e; cases r; exact ⟨_, Reads.bool b, by simp⟩
  | .int i, _, _, _, h, e, r => by
    cases h; simp only [D.pyT, Option.some.injEq] at e; subst e
    obtain ⟨t, rfl⟩ := r
    exact ⟨_, Reads.int i t, by simp⟩
  | .str x, _, _, _, h, e, r => by
    cases h; simp only [D.pyT, Option.some.injEq] at e; subst e
    obtain ⟨t, rfl⟩ := r
    exact ⟨_, Reads.str x t, by simp⟩
  | .tup ds, _, _, _, h, e, r => by
    simp only [D.pyT] at e
    obtain ⟨ps, q, rfl⟩ := Option.map_eq_some_iff.mp e
    cases h with
    | tup h1 z h2 =>
      cases r
      obtain ⟨its, rv, ⟨o, ho, hc, n, hd⟩, _⟩ := I.tuple (.of h1)
      obtain ⟨as, hr, hn⟩ := RepAll.readsT I ds _ its ps h2 q rv
      exact ⟨_, Reads.tuple ho hc hd hr, hn⟩
  | .dct false [], _, _, _, h, e, r => by
    simp only [D.pyT, Option.some.injEq] at e; subst e
    cases h with
    | dK h1 _ _ h2 =>
      cases h2
      cases r
      exact dk_reads I h1
  | .dct false (_ :: _), _, _, _, h, e, r => by simp [D.pyT] at e
  | .dct true _, _, _, _, h, e, r => by simp [D.pyT] at e
  | .lst _, _, _, _, h, e, r => by simp [D.pyT] at e
  | .src, _, _, _, h, e, r => by simp [D.pyT] at e
  | .ptp _, _, _, _, h, e, r => by simp [D.pyT] at e
theorem RepAll.readsT (I : Inv X pins σ H s) : ∀ (ds : List D) (vs : List V) (us : List Value) (ps : List PyData), RepAll N sa H vs ds → pyTs ds = some ps → Vals vs us → ∃ as, ReadsAll s.heap us ps as ∧ sysModules ∉ as
  | [], _, _, _, h, e, r => by
    cases h; simp only [pyTs, Option.some.injEq] at e; subst e; cases r
    exact ⟨_, ReadsAll.nil, by simp⟩
  | d :: ds, _, _, _, h, e, r => by
    simp only [pyTs] at e
    cases e1 : D.pyT d with
    | none => rw [e1] at e; cases e
    | some p =>
      cases e2 : pyTs ds with
      | none => rw [e1, e2] at e; cases e
      | some ps =>
        rw [e1, e2] at e
        cases e
        cases h with
        | cons h1 h2 =>
          cases r with
          | cons r1 r2 =>
            obtain ⟨as, q1, n1⟩ := Rep.readsT I d _ _ _ h1 e1 r1
            obtain ⟨bs, q2, n2⟩ := RepAll.readsT I ds _ _ _ h2 e2 r2
            refine ⟨_, ReadsAll.cons q1 q2, ?_⟩
            rw [List.mem_append]
            exact fun h => h.elim n1 n2
end
end

theorem RepI.readsT {W : Wd} {X : Cx} {pins : List (Addr × Obj)} {σ : St} {s : Shared} {H : Hp} (I : Inv X pins σ H s) {d : D} {v : V} {u : Value} {p : PyData} (h : RepI W H v d) (e : D.pyT d = some p) (r : RelV v u) : ∃ as, Reads s.heap u p as ∧ sysModules ∉ as := by
  rcases h with h | ⟨a, rfl, _, _, t⟩
  · exact Rep.readsT I d v u p h e r
  · cases d with
    | dct b kds =>
      cases b with
      | true => simp [D.pyT] at e
      | false =>
        cases kds with
        | nil =>
          simp only [D.pyT, Option.some.injEq] at e; subst e
          obtain ⟨us, hH, _, h2⟩ := t
          cases h2
          cases r
          exact dk_reads I hH
        | cons _ _ => simp [D.pyT] at e
    | lst _ => simp [D.pyT] at e
    | _ => exact t.elim

/-! ### repr -/
def rReprX (K : PySem.W.Frag) : List V → Hp → VK → Prop := fun xs H Q => rReprD K xs H Q ∨ ∃ x d p W, xs = [x] ∧ RepI W H x d ∧ D.pyT d = some p ∧ p.showable = true ∧ p.depth ≤ 64 ∧ p.shown.length ≤ sizeLine ∧ Q (.str p.shown) H
theorem cr_reprX {X : Cx} (hg : X.A.guards = some []) (hu : X.A.units + 66 < cLine) : CallR X (.builtin "repr") (rReprX X.K) := by
  intro pins s σ H xs us Q I r h
  rcases h with h | ⟨x, d, p, W, rfl, hd, e, h1, h3, hz, q⟩
  · exact cr_repr hg hu pins s σ H xs us Q I r h
  · obtain ⟨u, rfl, ru⟩ := Vals.one r
    obtain ⟨as, rd, hn⟩ := RepI.readsT I hd e ru
    have fin : ∀ (h' : Heap) (t : Tok) (tk : Nat), (∀ b o, s.heap.get? b = some o → h'.get? b = some o) → EP X pins σ Q (.str p.shown t) { s with heap := h', toks := tk } := fun h' t tk hk => ⟨.str p.shown, H, I.kept hk, ⟨t, rfl⟩, q⟩
    cases u with
    | ref a => exact repr_of_reads' rd h1 (fun _ => hn) hg (by omega) (fun _ _ e => e) (fun h' u tk hk => fin h' u tk hk) hz
    | none =>
      cases rd
      exact PySem.P.repr_of_none (fin s.heap _ _ fun _ _ e => e)
    | bool b =>
      cases rd
      exact PySem.P.repr_of_bool (fin s.heap _ _ fun _ _ e => e)
    | int i t =>
      cases rd
      exact PySem.P.repr_of_int (of_decide_eq_true h1) (fin s.heap _ _ fun _ _ e => e)
    | str y t =>
      cases rd
      exact PySem.P.repr_of_str (fin s.heap _ _ fun _ _ e => e) hz
    | _ => cases rd
def dReprT : List D → Option D
  | [d] => match D.pyT d with
    | some p => if p.showable && decide (p.depth ≤ 64) && decide (p.shown.length ≤ sizeLine) then some (.str p.shown) else none
    | none => none
  | _ => none
def dReprX (ds : List D) : Option D := match dRepr ds with
  | some d => some d
  | none => dReprT ds
theorem cv_reprX {K : PySem.W.Frag} : CallV (rReprX K) dReprX := by
  intro W H S vs ds d Q w a h k
  unfold dReprX at h
  cases e : dRepr ds with
  | some d1 =>
    rw [e] at h
    cases h
    exact .inl (cv_repr W H S vs ds d Q w a e k)
  | none =>
    rw [e] at h
    simp only at h
    unfold dReprT at h
    split at h
    · rename_i d0
      split at h
      · rename_i p ep
        split at h
        · rename_i c
          cases h
          simp only [Bool.and_eq_true, decide_eq_true_eq] at c
          obtain ⟨v, rfl, r⟩ := a.one
          exact .inr ⟨v, d0, p, W, rfl, r, ep, c.1.1, c.1.2, c.2, k _ H (.refl _ _) w (.str _)⟩
        · cases h
      · cases h
    · cases h

/-! ### == of tuples that have such values behind the places that are looked at -/
def dEqP (xs ys : List D) : Option Bool :=
  match pyAll (xs.take (min xs.length ys.length)), pyAll (ys.take (min xs.length ys.length)) with
  | some ps, some qs => if PyData.canLayAll0 ps && PyData.canLayAll0 qs && decide (PyData.depthAll ps ≤ 60) && decide (PyData.depthAll qs ≤ 60) then some (PyData.eqvAll ps qs && decide (xs.length = ys.length)) else none
  | _, _ => none
def dEqvX (x y : D) : Option Bool := match dEqv x y with
  | some b => some b
  | none => match x, y with
    | .tup xs, .tup ys => dEqP xs ys
    | .lst xs, .lst ys => if xs.length = ys.length then none else some false
    | _, _ => none
def dEqX (x y : D) : Option D := (dEqvX x y).map .bl
def dNeX (x y : D) : Option D := (dEqvX x y).map fun b => .bl (!b)
def rBeh (H : Hp) (x y : V) (b : Bool) : Prop := (∃ N sa xs ys, Rep N sa H x (.tup xs) ∧ Rep N sa H y (.tup ys) ∧ dEqP xs ys = some b) ∨ (b = false ∧ ∃ W xs ys, RepI W H x (.lst xs) ∧ RepI W H y (.lst ys) ∧ xs.length ≠ ys.length)
def rEqX (K : PySem.W.Frag) : R2 := fun x y H Q => rEqD K x y H Q ∨ ∃ b, rBeh H x y b ∧ Q (.bl b) H
def rNeX (K : PySem.W.Frag) : R2 := fun x y H Q => rNeD K x y H Q ∨ ∃ b, rBeh H x y b ∧ Q (.bl (!b)) H
theorem vals_take : ∀ {vs : List V} {us : List Value} (n : Nat), Vals vs us → Vals (vs.take n) (us.take n)
  | _, _, 0, _ => .nil
  | _, _, _ + 1, .nil => .nil
  | _, _, n + 1, .cons r t => .cons r (vals_take n t)
theorem beh_tups {X : Cx} {pins : List (Addr × Obj)} {σ : St} {s : Shared} {H : Hp} (hu : X.A.units + 64 < cLine) (I : Inv X pins σ H s) {N : Addr → Prop} {sa : Addr} {x y : V} {v u : Value} {xs ys : List D} {b : Bool}
    (hx : Rep N sa H x (.tup xs)) (hy : Rep N sa H y (.tup ys)) (e : dEqP xs ys = some b) (rx : RelV x v) (ry : RelV y u) :
    ∃ l l' its its' e, v = .ref l ∧ u = .ref l' ∧ s.heap.IsTuple l its ∧ s.heap.IsTuple l' its' ∧ (∀ j (h1 : j < its.size) (h2 : j < its'.size), SeqAt.EqAt X.A.in1 s its[j] its'[j] (e j)) ∧ ((List.range (min its.size its'.size)).all e && its.size == its'.size) = b := by
  cases hx with
  | @tup l vs _ h1 z1 r1 =>
    cases hy with
    | @tup l' vs' _ h1' z1' r1' =>
      cases rx
      cases ry
      obtain ⟨its, rv, hT, _⟩ := I.tuple (.of h1)
      obtain ⟨its', rv', hT', _⟩ := I.tuple (.of h1')
      unfold dEqP at e
      have l1 : vs.length = xs.length := r1.length
      have l2 : vs'.length = ys.length := r1'.length
      have m1 : its.length = vs.length := rv.length.symm
      have m2 : its'.length = vs'.length := rv'.length.symm
      cases e1 : pyAll (xs.take (min xs.length ys.length)) with
      | none => rw [e1] at e; cases e
      | some ps =>
        cases e2 : pyAll (ys.take (min xs.length ys.length)) with
        | none => rw [e1, e2] at e; cases e
        | some qs =>
          rw [e1, e2] at e
          simp only at e
          split at e
          · rename_i c
            cases e
            simp only [Bool.and_eq_true, decide_eq_true_eq] at c
            obtain ⟨as, a1⟩ := Dp.readsAll I ps _ _ (RepAll.dp (K := X.K) (r1.take (min xs.length ys.length)) e1) (vals_take (min xs.length ys.length) rv)
            obtain ⟨bs, a2⟩ := Dp.readsAll I qs _ _ (RepAll.dp (K := X.K) (r1'.take (min xs.length ys.length)) e2) (vals_take (min xs.length ys.length) rv')
            have n1 : ps.length = min xs.length ys.length := by
              have := SeqAt.ReadsAll.length _ _ _ a1
              rw [List.length_take] at this
              omega
            have n2 : qs.length = min xs.length ys.length := by
              have := SeqAt.ReadsAll.length _ _ _ a2
              rw [List.length_take] at this
              omega
            refine ⟨l, l', its.toArray, its'.toArray, SeqAt.pairEq ps qs, rfl, rfl, hT, hT', fun j j1 j2 => ?_, ?_⟩
            · simp only [List.size_toArray] at j1 j2
              have := SeqAt.eqAt_readsAll ps qs X.A.in1 s _ _ _ _ a1 a2 c.1.1.1 c.1.1.2 (by
                have : X.A.in1.units = X.A.units + 1 := rfl
                omega) j (by rw [List.length_take]; omega) (by rw [List.length_take]; omega)
              simpa using this
            · rw [List.size_toArray, List.size_toArray, m1, m2, l1, l2, ← SeqAt.eqvAll_same_length (by omega : ps.length = qs.length), n1]
              rfl
          · cases e
theorem beh_lsts {X : Cx} {pins : List (Addr × Obj)} {σ : St} {s : Shared} {H : Hp} (I : Inv X pins σ H s) {W : Wd} {x y : V} {v u : Value} {xs ys : List D}
    (hx : RepI W H x (.lst xs)) (hy : RepI W H y (.lst ys)) (e : xs.length ≠ ys.length) (rx : RelV x v) (ry : RelV y u) :
    ∃ l l' its its', v = .ref l ∧ u = .ref l' ∧ s.heap.IsList l its ∧ s.heap.IsList l' its' ∧ (its.size != its'.size) = true := by
  obtain ⟨a, vs, rfl, h, _, r, _⟩ := hx.lst
  obtain ⟨a', vs', rfl, h', _, r', _⟩ := hy.lst
  cases rx
  cases ry
  obtain ⟨its, rv, hL, _⟩ := I.list (.of h)
  obtain ⟨its', rv', hL', _⟩ := I.list (.of h')
  refine ⟨a, a', its.toArray, its'.toArray, rfl, rfl, hL.isList, hL'.isList, ?_⟩
  have l1 : vs.length = xs.length := r.length
  have l2 : vs'.length = ys.length := r'.length
  have m1 : its.length = vs.length := rv.length.symm
  have m2 : its'.length = vs'.length := rv'.length.symm
  rw [List.size_toArray, List.size_toArray, bne_iff_ne]
  omega
theorem op_eqX {X : Cx} (hu : X.A.units + 64 < cLine) : OpR X (compareOp .Eq) (rEqX X.K) := by
  intro pins s σ H x y v u Q I rx ry h
  rcases h with h | ⟨b, (⟨N, sa, xs, ys, hx, hy, e⟩ | ⟨rfl, W, xs, ys, hx, hy, e⟩), q⟩
  · exact op_eqD hu pins s σ H x y v u Q I rx ry h
  · obtain ⟨l, l', its, its', e, rfl, rfl, h1, h2, h3, h4⟩ := beh_tups hu I hx hy e rx ry
    have rc := SeqAt.RcAt.tuples (A := X.A) h1 h2 (by omega) h3
    rw [h4] at rc
    exact rc X.prog X.w _ _ ⟨.bl _, H, I, rfl, q⟩
  · obtain ⟨l, l', its, its', rfl, rfl, h1, h2, h3⟩ := beh_lsts I hx hy e rx ry
    exact SeqAt.RcAt.lists_lengths (A := X.A) h1 h2 h3 (by omega) X.prog X.w _ _ ⟨.bl _, H, I, rfl, q⟩
theorem op_neX {X : Cx} (hu : X.A.units + 64 < cLine) : OpR X (compareOp .NotEq) (rNeX X.K) := by
  intro pins s σ H x y v u Q I rx ry h
  rcases h with h | ⟨b, (⟨N, sa, xs, ys, hx, hy, e⟩ | ⟨rfl, W, xs, ys, hx, hy, e⟩), q⟩
  · exact op_neD hu pins s σ H x y v u Q I rx ry h
  · obtain ⟨l, l', its, its', e, rfl, rfl, h1, h2, h3, h4⟩ := beh_tups hu I hx hy e rx ry
    have rc := SeqAt.RcNeAt.tuples (A := X.A) h1 h2 (by omega) h3
    rw [h4] at rc
    exact rc X.prog X.w _ _ ⟨.bl _, H, I, rfl, q⟩
  · obtain ⟨l, l', its, its', rfl, rfl, h1, h2, h3⟩ := beh_lsts I hx hy e rx ry
    exact SeqAt.RcNeAt.lists_lengths (A := X.A) h1 h2 h3 (by omega) X.prog X.w _ _ ⟨.bl _, H, I, rfl, q⟩
theorem beh_of {W : Wd} {H : Hp} {v u : V} {x y : D} {b : Bool} (rx : RepI W H v x) (ry : RepI W H u y) (e : dEqv x y = none) (h : dEqvX x y = some b) : rBeh H v u b := by
  unfold dEqvX at h
  rw [e] at h
  simp only at h
  split at h
  · rename_i xs ys
    rcases rx with rx | ⟨_, _, _, _, t⟩
    · rcases ry with ry | ⟨_, _, _, _, t⟩
      · exact .inl ⟨_, _, xs, ys, rx, ry, h⟩
      · exact t.elim
    · exact t.elim
  · rename_i xs ys
    split at h
    · cases h
    · rename_i c
      cases h
      exact .inr ⟨rfl, W, xs, ys, rx, ry, c⟩
  · cases h
theorem opv_eqX {K : PySem.W.Frag} : OpV (rEqX K) dEqX := by
  intro W H S v u x y d Q w rx ry h k
  unfold dEqX at h
  obtain ⟨b, hb, rfl⟩ := Option.map_eq_some_iff.mp h
  cases e : dEqv x y with
  | some d1 =>
    refine .inl (opv_eq W H S v u x y _ Q w rx ry ?_ k)
    unfold dEqvX at hb
    rw [e] at hb
    cases hb
    unfold dEq
    rw [e]
    rfl
  | none => exact .inr ⟨b, beh_of rx ry e hb, k _ H (.refl _ _) w (.bl _)⟩
theorem opv_neX {K : PySem.W.Frag} : OpV (rNeX K) dNeX := by
  intro W H S v u x y d Q w rx ry h k
  unfold dNeX at h
  obtain ⟨b, hb, rfl⟩ := Option.map_eq_some_iff.mp h
  cases e : dEqv x y with
  | some d1 =>
    refine .inl (opv_ne W H S v u x y _ Q w rx ry ?_ k)
    unfold dEqvX at hb
    rw [e] at hb
    cases hb
    unfold dNe
    rw [e]
    rfl
  | none => exact .inr ⟨b, beh_of rx ry e hb, k _ H (.refl _ _) w (.bl _)⟩
theorem dReprX_of {d r : D} (h : dRepr [d] = some r) : dReprX [d] = some r := by unfold dReprX; rw [h]
theorem dEqvX_of {x y : D} {b : Bool} (h : dEqv x y = some b) : dEqvX x y = some b := by unfold dEqvX; rw [h]
theorem dEqX_of {x y r : D} (h : dEq x y = some r) : dEqX x y = some r := by
  unfold dEq at h; unfold dEqX
  obtain ⟨b, hb, rfl⟩ := Option.map_eq_some_iff.mp h
  rw [dEqvX_of hb]; rfl
theorem dNeX_of {x y r : D} (h : dNe x y = some r) : dNeX x y = some r := by
  unfold dNe at h; unfold dNeX
  obtain ⟨b, hb, rfl⟩ := Option.map_eq_some_iff.mp h
  rw [dEqvX_of hb]; rfl
end L2.EV

namespace K20
open PySem PySem.Spec PyProof.Rows L2 L2.EV
noncomputable section
def topS (i : Nat) : Stmt := PySem.Challenge.pw_placesdefended_k20_claw_papers_judged.main.body.getD i (.Pass ⟨0, 0, 0, 0⟩)
abbrev st__law_pick : Stmt := topS 14
def fb__law_pick : Ev → M Out := (sSeq (sIf (bOf (eBin dLt (eVarI 1) (eC (.int 2)))) (sRet (eC (.int 0))) sNil) (sDrain1 0 2 (sSeq (sSet 3 (eFld 0 .left)) (sSeq (sIf (bOf (eBin dGt (eVarI 3) (eC (.int 1)))) (sSeq (sFld 0 .left (eBin dFdiv (eVarI 3) (eVarI 1))) (sRet (eBin dMod (eCall dInt (aCons (eVarI 3) aNil)) (eVarI 1)))) sNil) (sSeq (sFld 0 .turn (eBin dAdd (eFld 0 .turn) (eC (.int 1)))) (sSeq (sSet 4 (eFld 0 .turn)) (sSeq (sSet 5 (eBin dMod (eCall dInt (aCons (eBin dAdd (eFld 0 .mixed) (eBin dMul (eVarI 4) (eC (.int 104729)))) aNil)) (eC (.int 998244353)))) (sSeq (sSet 5 (eBin dMod (eCall dInt (aCons (eBin dAdd (eBin dMul (eVarI 5) (eVarI 5)) (eBin dMul (eVarI 4) (eC (.int 17)))) aNil)) (eC (.int 2147483647)))) (sRet (eBin dMod (eCall dInt (aCons (eBin dFdiv (eVarI 5) (eC (.int 16))) aNil)) (eVarI 1)))))))))))
theorem sc__law_pick : FnScope ["source", "most", "cells", "others", "lap", "stirred"] ["source", "most"] (defScope st__law_pick) := ⟨rfl, rfl, rfl, by decide +kernel, rfl, by decide +kernel, by decide +kernel⟩
def m__law_pick : List D → M D := fnM 6 [false, false] fb__law_pick
theorem un__law_pick (x0 x1 : D) : m__law_pick [x0, x1] = fb__law_pick [some (.s x0), some (.s x1), none, none, none, none] >>= endM := by unfold m__law_pick fnM startE; simp only [List.zipWith_cons_cons, List.zipWith_nil_left, List.zipWith_nil_right, EV.cellOf, List.map_cons, List.map_nil, List.length_cons, List.length_nil, List.cons_append, List.nil_append, Nat.reduceAdd, Nat.reduceSub, List.replicate_succ, List.replicate_zero]
theorem ok__law_pick {P : Program} {w : World} {K : PySem.W.Frag} {mg : Str → Option Value} {base : Heap} {f : Addr} {fd : FuncData} (Fn : Fun K "_law_pick" "_law_pick" st__law_pick f fd) (m_int : mg "int" = none) (m_len : mg "len" = none) :
    FnOk P w K mg base CX0 1 f fd ["source", "most"] (spD [false, false] m__law_pick) := fn_ev Fn sc__law_pick rfl fun cdv A outer s H E hr => by
  have u1 := room_u hr 1 (by decide)
  have u64 := room_u hr 64 (by decide)
  have u65 := room_u hr 65 (by decide)
  have u66 := room_u hr 66 (by decide)
  have nd := sc__law_pick.nd
  exact (sss_cons (ss_if (eb_cmp op_lt opv_lt (ei_var 1) (ee_int).i) (sss_one (ss_ret ee_int)) sss_nil) (sss_drain1 0 2 (ps_set (i := 2) nd rfl (by first | exact Or.inl rfl | exact Or.inr rfl) (pe_ix (ix_dict u1) (pv 0) pe_str (fun _ _ => rfl))) (ps_while PassesOwn.never (pw_and (pt_cmpR op_lt (pe_ix (ix_dict u1) (pv 0) pe_str (fun _ _ => rfl)) pe_int (nomark _)) (pw_and1 (pt_cmpR op_gt (pe_callB cr_lenAll (by rfl) m_len PySem.boot_len (pa_cons (pv 2) pa_nil)) pe_int (nomark _)))).pt (pss_one (ps_asg (pe_bm0 PySem.F.plainAttrs_list PySem.F.slot_list_pop PySem.F.type_list_pop mt_pop (pv 2)) (pg_sub (pv 0) pe_str (set_dict u1))))) (sss_cons (ss_set 3 nd (ee_fld .left 0 u1)) (sss_cons (ss_if (eb_cmp op_gt opv_gt (ei_var 3) (ee_int).i) (sss_cons (ss_fld .left 0 u1 (ee_bin op_fdiv opv_fdiv (ei_var 3) (ei_var 1))) (sss_one (ss_ret (ee_bin op_mod opv_mod ((ee_callTy call_int1 cv_int m_int PyProof.Rows.boot_int (ea_b (ei_var 3) ea_nil))).i (ei_var 1))))) sss_nil) (sss_cons (ss_fld .turn 0 u1 (ee_bin op_addAll opv_add ((ee_fld .turn 0 u1)).i (ee_int).i)) (sss_cons (ss_set 4 nd (ee_fld .turn 0 u1)) (sss_cons (ss_set 5 nd (ee_bin op_mod opv_mod ((ee_callTy call_int1 cv_int m_int PyProof.Rows.boot_int (ea_b ((ee_bin op_addAll opv_add ((ee_fld .mixed 0 u1)).i ((ee_bin op_mulAll opv_mul (ei_var 4) (ee_int).i)).i)).i ea_nil))).i (ee_int).i)) (sss_cons (ss_set 5 nd (ee_bin op_mod opv_mod ((ee_callTy call_int1 cv_int m_int PyProof.Rows.boot_int (ea_b ((ee_bin op_addAll opv_add ((ee_bin op_mulAll opv_mul (ei_var 5) (ei_var 5))).i ((ee_bin op_mulAll opv_mul (ei_var 4) (ee_int).i)).i)).i ea_nil))).i (ee_int).i)) (sss_one (ss_ret (ee_bin op_mod opv_mod ((ee_callTy call_int1 cv_int m_int PyProof.Rows.boot_int (ea_b ((ee_bin op_fdiv opv_fdiv (ei_var 5) (ee_int).i)).i ea_nil))).i (ei_var 1))))))))))))
abbrev st__law_any_order : Stmt := topS 15
def fb__law_any_order : Ev → M Out := (sSeq (sOwn 2 (eCall dList (aCons (eVarI 1) aNil))) (sRetPop 2 [3] (iRng rng1 (aCons (eCall dLen (aCons (eVarI 2) aNil)) aNil)) (gN 3) (aCons (eCallU m__law_pick (aCons (eVar 0) (aCons (eCall dLen (aCons (eVarI 2) aNil)) aNil))) aNil)))
theorem sc__law_any_order : FnScope ["source", "things", "others", "lap"] ["source", "things"] (defScope st__law_any_order) := ⟨rfl, rfl, rfl, by decide +kernel, rfl, by decide +kernel, by decide +kernel⟩
def m__law_any_order : List D → M D := fnM 4 [false, false] fb__law_any_order
theorem un__law_any_order (x0 x1 : D) : m__law_any_order [x0, x1] = fb__law_any_order [some (.s x0), some (.s x1), none, none] >>= endM := by unfold m__law_any_order fnM startE; simp only [List.zipWith_cons_cons, List.zipWith_nil_left, List.zipWith_nil_right, EV.cellOf, List.map_cons, List.map_nil, List.length_cons, List.length_nil, List.cons_append, List.nil_append, Nat.reduceAdd, Nat.reduceSub, List.replicate_succ, List.replicate_zero]
theorem ok__law_any_order {P : Program} {w : World} {K : PySem.W.Frag} {mg : Str → Option Value} {base : Heap} {f : Addr} {fd : FuncData} (Fn : Fun K "_law_any_order" "_law_any_order" st__law_any_order f fd) (m_len : mg "len" = none) (m_list : mg "list" = none) (m_range : mg "range" = none) (h__law_pick : FnV P w K mg base 1 "_law_pick" [false, false] m__law_pick) :
    FnOk P w K mg base CX0 2 f fd ["source", "things"] (spD [false, false] m__law_any_order) := fn_ev Fn sc__law_any_order rfl fun cdv A outer s H E hr => by
  have u1 := room_u hr 1 (by decide)
  have u64 := room_u hr 64 (by decide)
  have u65 := room_u hr 65 (by decide)
  have u66 := room_u hr 66 (by decide)
  have nd := sc__law_any_order.nd
  exact (sss_cons (ss_own 2 nd (en_callTy call_list_of cn_list m_list PyProof.Rows.boot_list (ea_b (ei_var 1) ea_nil))) (sss_one (ss_anyOrder (own := [("lap", 3)]) 2 (by decide) (noO_N 3) nd rfl (by rfl) (is_rng1 m_range (ea_b ((ee_callB cr_lenAll cv_len m_len PySem.boot_len (ea_b (ei_var 2) ea_nil))).i ea_nil)) (fun _ _ _ _ _ => (eg_name 3 nd)) (fun _ _ _ _ _ => (pe_bm PySem.F.plainAttrs_list PySem.F.slot_list_pop PySem.F.type_list_pop mt_popAt (pv 2) (EA.max (ea_b ((ee_call h__law_pick hr (ea_s (ee_var 0) (ea_s (ee_callB cr_lenAll cv_len m_len PySem.boot_len (ea_b (ei_var 2) ea_nil)) ea_nil)))).i ea_nil)))))))
abbrev st__law_claws : Stmt := topS 21
def ct__law_claws_1 : Ev → M Bool := (bAnd (bOf (eBin dLt (eVarI 3) (eVarI 4))) (bOf (eBin dNotIn (eVarI 4) (eBin dIx (eVarI 0) (eVarI 3)))))
def ce__law_claws_1 : Ev → M D := (eVar 4)
def ct__law_claws_2 : Ev → M Bool := (bAnd (bOf (eBin dLt (eVarI 4) (eVarI 5))) (bAnd (bOf (eBin dNotIn (eVarI 5) (eBin dIx (eVarI 0) (eVarI 3)))) (bOf (eBin dNotIn (eVarI 5) (eBin dIx (eVarI 0) (eVarI 4))))))
def ce__law_claws_2 : Ev → M D := (eTup (aCons (eVar 2) (aCons (eVar 3) (aCons (eVar 4) (aCons (eVar 5) aNil)))))
def bd__law_claws_1 : Ev → M Out := (sSet 1 (eBin dAdd (eVarI 1) (eLc [5] (iSeq (eBin dIx (eVarI 0) (eVarI 2))) (gN 5) ct__law_claws_2 ce__law_claws_2)))
def bd__law_claws_2 : Ev → M Out := (sFor (iSeq (eLc [4] (iSeq (eBin dIx (eVarI 0) (eVarI 2))) (gN 4) ct__law_claws_1 ce__law_claws_1)) (gN 4) bd__law_claws_1)
def bd__law_claws_3 : Ev → M Out := (sFor (iSeq (eBin dIx (eVarI 0) (eVarI 2))) (gN 3) bd__law_claws_2)
def fb__law_claws : Ev → M Out := (sSeq (sSet 1 (eLst aNil)) (sSeq (sFor (iRng rng1 (aCons (eCall dLen (aCons (eVarI 0) aNil)) aNil)) (gN 2) bd__law_claws_3) (sRet (eVar 1))))
theorem sc__law_claws : FnScope ["near", "found", "c", "a", "b", "d"] ["near"] (defScope st__law_claws) := ⟨rfl, rfl, rfl, by decide +kernel, rfl, by decide +kernel, by decide +kernel⟩
def m__law_claws : List D → M D := fnM 6 [false] fb__law_claws
theorem un__law_claws (x0 : D) : m__law_claws [x0] = fb__law_claws [some (.s x0), none, none, none, none, none] >>= endM := by unfold m__law_claws fnM startE; simp only [List.zipWith_cons_cons, List.zipWith_nil_left, List.zipWith_nil_right, EV.cellOf, List.map_cons, List.map_nil, List.length_cons, List.length_nil, List.cons_append, List.nil_append, Nat.reduceAdd, Nat.reduceSub, List.replicate_succ, List.replicate_zero]
theorem ok__law_claws {P : Program} {w : World} {K : PySem.W.Frag} {mg : Str → Option Value} {base : Heap} {f : Addr} {fd : FuncData} (Fn : Fun K "_law_claws" "_law_claws" st__law_claws f fd) (m_len : mg "len" = none) (m_range : mg "range" = none) :
    FnOk P w K mg base CX0 1 f fd ["near"] (spD [false] m__law_claws) := fn_ev Fn sc__law_claws rfl fun cdv A outer s H E hr => by
  have u1 := room_u hr 1 (by decide)
  have u64 := room_u hr 64 (by decide)
  have u65 := room_u hr 65 (by decide)
  have u66 := room_u hr 66 (by decide)
  have nd := sc__law_claws.nd
  exact (sss_cons (ss_set 1 nd ((en_lst ea_nil)).ee) (sss_cons (ss_for (is := [2]) PassesOwn.never rfl (is_rng1 m_range (ea_b ((ee_callB cr_lenAll cv_len m_len PySem.boot_len (ea_b (ei_var 0) ea_nil))).i ea_nil)) (eg_name 2 nd) (sss_one (ss_for (is := [3]) PassesOwn.never rfl (is_seq (ee_ix u1 (ei_var 0) (ei_var 2))) (eg_name 3 nd) (sss_one (ss_for (is := [4]) PassesOwn.never rfl (is_seq ((en_lc (own := [("b", 4)]) nd rfl (by rfl) (ic_seq ((ee_ix u1 (ei_var 0) (ei_var 2))).i) (fun _ _ _ _ _ => (eg_name 4 nd)) (fun _ _ _ _ _ => (ets_one ((ew_and (eb_cmp op_lt opv_lt (ei_var 3) (ei_var 4)) (ew_and1 (eb_cmp (op_notInAll u65) opv_notIn (ei_var 4) ((ee_ix u1 (ei_var 0) (ei_var 3))).i)))).eb)) (fun _ _ _ _ _ => (ee_var 4)))).ee) (eg_name 4 nd) (sss_one (ss_set 1 nd (ee_bin op_addAll opv_add (ei_var 1) (((en_lc (own := [("d", 5)]) nd rfl (by rfl) (ic_seq ((ee_ix u1 (ei_var 0) (ei_var 2))).i) (fun _ _ _ _ _ => (eg_name 5 nd)) (fun _ _ _ _ _ => (ets_one ((ew_and (eb_cmp op_lt opv_lt (ei_var 4) (ei_var 5)) (ew_and (eb_cmp (op_notInAll u65) opv_notIn (ei_var 5) ((ee_ix u1 (ei_var 0) (ei_var 3))).i) (ew_and1 (eb_cmp (op_notInAll u65) opv_notIn (ei_var 5) ((ee_ix u1 (ei_var 0) (ei_var 4))).i))))).eb)) (fun _ _ _ _ _ => (ee_tup (ea_s (ee_var 2) (ea_s (ee_var 3) (ea_s (ee_var 4) (ea_s (ee_var 5) ea_nil)))))))).ee).i)))))))) (sss_one (ss_ret (ee_var 1)))))
abbrev st__law_fault : Stmt := topS 22
def ct__law_fault_1 : Ev → M Bool := (bOr (bNot (bOf (eIsiX "int" (eVarI 10)))) (bOr (bOf (eIsiX "bool" (eVarI 10))) (bNot (bOf (eChain dLe dLt (eC (.int 0)) (eVarI 10) (eBin dIx (eVarI 0) (eC (.int 0))))))))
def ce__law_fault_1 : Ev → M D := (eVar 10)
def ct__law_fault_2 : Ev → M Bool := (bOf (eBin dNotIn (eVarI 10) (eBin dIx (eVarI 1) (eVarI 6))))
def ce__law_fault_2 : Ev → M D := (eVar 10)
def ct__law_fault_3 : Ev → M Bool := (bOf (eBin dIn (eVarI 11) (eBin dIx (eVarI 1) (eVarI 10))))
def ce__law_fault_3 : Ev → M D := (eTup (aCons (eVar 10) (aCons (eVar 11) aNil)))
def tl__law_fault_2 : Ev → M Out := (sRet (eTup (aCons (eC (.str "form")) aNil)))
def tl__law_fault_5 : Ev → M Out := (sRet (eIf (bOf (eBin dNeX (eCall dLen (aCons (eVarI 2) aNil)) (eC (.int 1)))) (eTup (aCons (eC (.str "form")) aNil)) (eIf (bOf (eBin dNeX (eVarI 5) (eLst aNil))) (eBin dAdd (eTup (aCons (eC (.str "claw")) aNil)) (eBin dIx (eVarI 5) (eC (.int 0)))) (eC .non))))
def tl__law_fault_4 : Ev → M Out := (sSeq (sSet 5 (eCallU m__law_claws (aCons (eVar 1) aNil))) (sRet (eIf (bOf (eBin dNeX (eCall dLen (aCons (eVarI 2) aNil)) (eC (.int 1)))) (eTup (aCons (eC (.str "form")) aNil)) (eIf (bOf (eBin dNeX (eVarI 5) (eLst aNil))) (eBin dAdd (eTup (aCons (eC (.str "claw")) aNil)) (eBin dIx (eVarI 5) (eC (.int 0)))) (eC .non)))))
def tl__law_fault_7 : Ev → M Out := (sRet (eTup (aCons (eC (.str "form")) aNil)))
def tl__law_fault_9 : Ev → M Out := (sRet (eTup (aCons (eC (.str "form")) aNil)))
def tl__law_fault_12 : Ev → M Out := (sRet (eTup (aCons (eC (.str "form")) aNil)))
def tl__law_fault_15 : Ev → M Out := (sRet (eTup (aCons (eC (.str "loose")) (aCons (eBin dIx (eVarI 3) (eC (.int 0))) aNil))))
def tl__law_fault_17 : Ev → M Out := (sRet (eIf (bOf (eBin dNeX (eVarI 4) (eLst aNil))) (eBin dAdd (eTup (aCons (eC (.str "tied")) aNil)) (eBin dIx (eVarI 4) (eC (.int 0)))) (eC .non)))
def tl__law_fault_16 : Ev → M Out := (sSeq (sSet 4 (eLc [10, 11] (iSeq (eTup (aCons (eTup (aCons (eVar 7) (aCons (eVar 8) aNil))) (aCons (eTup (aCons (eVar 7) (aCons (eVar 9) aNil))) (aCons (eTup (aCons (eVar 8) (aCons (eVar 9) aNil))) aNil))))) (gT (gCons0 (gN 10) (gCons0 (gN 11) gNil0))) ct__law_fault_3 ce__law_fault_3)) (sRet (eIf (bOf (eBin dNeX (eVarI 4) (eLst aNil))) (eBin dAdd (eTup (aCons (eC (.str "tied")) aNil)) (eBin dIx (eVarI 4) (eC (.int 0)))) (eC .non))))
def tl__law_fault_14 : Ev → M Out := (sSeq (sIf (bOf (eBin dNeX (eVarI 3) (eLst aNil))) (sRet (eTup (aCons (eC (.str "loose")) (aCons (eBin dIx (eVarI 3) (eC (.int 0))) aNil)))) sNil) (sSeq (sSet 4 (eLc [10, 11] (iSeq (eTup (aCons (eTup (aCons (eVar 7) (aCons (eVar 8) aNil))) (aCons (eTup (aCons (eVar 7) (aCons (eVar 9) aNil))) (aCons (eTup (aCons (eVar 8) (aCons (eVar 9) aNil))) aNil))))) (gT (gCons0 (gN 10) (gCons0 (gN 11) gNil0))) ct__law_fault_3 ce__law_fault_3)) (sRet (eIf (bOf (eBin dNeX (eVarI 4) (eLst aNil))) (eBin dAdd (eTup (aCons (eC (.str "tied")) aNil)) (eBin dIx (eVarI 4) (eC (.int 0)))) (eC .non)))))
def tl__law_fault_13 : Ev → M Out := (sSeq (sSet 3 (eLc [10] (iSeq (eTup (aCons (eVar 7) (aCons (eVar 8) (aCons (eVar 9) aNil))))) (gN 10) ct__law_fault_2 ce__law_fault_2)) (sSeq (sIf (bOf (eBin dNeX (eVarI 3) (eLst aNil))) (sRet (eTup (aCons (eC (.str "loose")) (aCons (eBin dIx (eVarI 3) (eC (.int 0))) aNil)))) sNil) (sSeq (sSet 4 (eLc [10, 11] (iSeq (eTup (aCons (eTup (aCons (eVar 7) (aCons (eVar 8) aNil))) (aCons (eTup (aCons (eVar 7) (aCons (eVar 9) aNil))) (aCons (eTup (aCons (eVar 8) (aCons (eVar 9) aNil))) aNil))))) (gT (gCons0 (gN 10) (gCons0 (gN 11) gNil0))) ct__law_fault_3 ce__law_fault_3)) (sRet (eIf (bOf (eBin dNeX (eVarI 4) (eLst aNil))) (eBin dAdd (eTup (aCons (eC (.str "tied")) aNil)) (eBin dIx (eVarI 4) (eC (.int 0)))) (eC .non))))))
def tl__law_fault_11 : Ev → M Out := (sSeq (sIf (bNot (bOf (eChain dLt dLt (eVarI 7) (eVarI 8) (eVarI 9)))) (sRet (eTup (aCons (eC (.str "form")) aNil))) sNil) (sSeq (sSet 3 (eLc [10] (iSeq (eTup (aCons (eVar 7) (aCons (eVar 8) (aCons (eVar 9) aNil))))) (gN 10) ct__law_fault_2 ce__law_fault_2)) (sSeq (sIf (bOf (eBin dNeX (eVarI 3) (eLst aNil))) (sRet (eTup (aCons (eC (.str "loose")) (aCons (eBin dIx (eVarI 3) (eC (.int 0))) aNil)))) sNil) (sSeq (sSet 4 (eLc [10, 11] (iSeq (eTup (aCons (eTup (aCons (eVar 7) (aCons (eVar 8) aNil))) (aCons (eTup (aCons (eVar 7) (aCons (eVar 9) aNil))) (aCons (eTup (aCons (eVar 8) (aCons (eVar 9) aNil))) aNil))))) (gT (gCons0 (gN 10) (gCons0 (gN 11) gNil0))) ct__law_fault_3 ce__law_fault_3)) (sRet (eIf (bOf (eBin dNeX (eVarI 4) (eLst aNil))) (eBin dAdd (eTup (aCons (eC (.str "tied")) aNil)) (eBin dIx (eVarI 4) (eC (.int 0)))) (eC .non)))))))
def tl__law_fault_10 : Ev → M Out := (sSeq (sAsg (gT (gCons0 (gN 6) (gCons0 (gN 7) (gCons0 (gN 8) (gCons0 (gN 9) gNil0))))) (eSl (eVarI 2) (oSome (eC (.int 1))) oNone)) (sSeq (sIf (bNot (bOf (eChain dLt dLt (eVarI 7) (eVarI 8) (eVarI 9)))) (sRet (eTup (aCons (eC (.str "form")) aNil))) sNil) (sSeq (sSet 3 (eLc [10] (iSeq (eTup (aCons (eVar 7) (aCons (eVar 8) (aCons (eVar 9) aNil))))) (gN 10) ct__law_fault_2 ce__law_fault_2)) (sSeq (sIf (bOf (eBin dNeX (eVarI 3) (eLst aNil))) (sRet (eTup (aCons (eC (.str "loose")) (aCons (eBin dIx (eVarI 3) (eC (.int 0))) aNil)))) sNil) (sSeq (sSet 4 (eLc [10, 11] (iSeq (eTup (aCons (eTup (aCons (eVar 7) (aCons (eVar 8) aNil))) (aCons (eTup (aCons (eVar 7) (aCons (eVar 9) aNil))) (aCons (eTup (aCons (eVar 8) (aCons (eVar 9) aNil))) aNil))))) (gT (gCons0 (gN 10) (gCons0 (gN 11) gNil0))) ct__law_fault_3 ce__law_fault_3)) (sRet (eIf (bOf (eBin dNeX (eVarI 4) (eLst aNil))) (eBin dAdd (eTup (aCons (eC (.str "tied")) aNil)) (eBin dIx (eVarI 4) (eC (.int 0)))) (eC .non))))))))
def tl__law_fault_8 : Ev → M Out := (sSeq (sIf (bOf (eBin dNeX (eLc [10] (iSeq (eSl (eVarI 2) (oSome (eC (.int 1))) oNone)) (gN 10) ct__law_fault_1 ce__law_fault_1) (eLst aNil))) (sRet (eTup (aCons (eC (.str "form")) aNil))) sNil) (sSeq (sAsg (gT (gCons0 (gN 6) (gCons0 (gN 7) (gCons0 (gN 8) (gCons0 (gN 9) gNil0))))) (eSl (eVarI 2) (oSome (eC (.int 1))) oNone)) (sSeq (sIf (bNot (bOf (eChain dLt dLt (eVarI 7) (eVarI 8) (eVarI 9)))) (sRet (eTup (aCons (eC (.str "form")) aNil))) sNil) (sSeq (sSet 3 (eLc [10] (iSeq (eTup (aCons (eVar 7) (aCons (eVar 8) (aCons (eVar 9) aNil))))) (gN 10) ct__law_fault_2 ce__law_fault_2)) (sSeq (sIf (bOf (eBin dNeX (eVarI 3) (eLst aNil))) (sRet (eTup (aCons (eC (.str "loose")) (aCons (eBin dIx (eVarI 3) (eC (.int 0))) aNil)))) sNil) (sSeq (sSet 4 (eLc [10, 11] (iSeq (eTup (aCons (eTup (aCons (eVar 7) (aCons (eVar 8) aNil))) (aCons (eTup (aCons (eVar 7) (aCons (eVar 9) aNil))) (aCons (eTup (aCons (eVar 8) (aCons (eVar 9) aNil))) aNil))))) (gT (gCons0 (gN 10) (gCons0 (gN 11) gNil0))) ct__law_fault_3 ce__law_fault_3)) (sRet (eIf (bOf (eBin dNeX (eVarI 4) (eLst aNil))) (eBin dAdd (eTup (aCons (eC (.str "tied")) aNil)) (eBin dIx (eVarI 4) (eC (.int 0)))) (eC .non)))))))))
def tl__law_fault_6 : Ev → M Out := (sSeq (sIf (bOf (eBin dNeX (eCall dLen (aCons (eVarI 2) aNil)) (eC (.int 5)))) (sRet (eTup (aCons (eC (.str "form")) aNil))) sNil) (sSeq (sIf (bOf (eBin dNeX (eLc [10] (iSeq (eSl (eVarI 2) (oSome (eC (.int 1))) oNone)) (gN 10) ct__law_fault_1 ce__law_fault_1) (eLst aNil))) (sRet (eTup (aCons (eC (.str "form")) aNil))) sNil) (sSeq (sAsg (gT (gCons0 (gN 6) (gCons0 (gN 7) (gCons0 (gN 8) (gCons0 (gN 9) gNil0))))) (eSl (eVarI 2) (oSome (eC (.int 1))) oNone)) (sSeq (sIf (bNot (bOf (eChain dLt dLt (eVarI 7) (eVarI 8) (eVarI 9)))) (sRet (eTup (aCons (eC (.str "form")) aNil))) sNil) (sSeq (sSet 3 (eLc [10] (iSeq (eTup (aCons (eVar 7) (aCons (eVar 8) (aCons (eVar 9) aNil))))) (gN 10) ct__law_fault_2 ce__law_fault_2)) (sSeq (sIf (bOf (eBin dNeX (eVarI 3) (eLst aNil))) (sRet (eTup (aCons (eC (.str "loose")) (aCons (eBin dIx (eVarI 3) (eC (.int 0))) aNil)))) sNil) (sSeq (sSet 4 (eLc [10, 11] (iSeq (eTup (aCons (eTup (aCons (eVar 7) (aCons (eVar 8) aNil))) (aCons (eTup (aCons (eVar 7) (aCons (eVar 9) aNil))) (aCons (eTup (aCons (eVar 8) (aCons (eVar 9) aNil))) aNil))))) (gT (gCons0 (gN 10) (gCons0 (gN 11) gNil0))) ct__law_fault_3 ce__law_fault_3)) (sRet (eIf (bOf (eBin dNeX (eVarI 4) (eLst aNil))) (eBin dAdd (eTup (aCons (eC (.str "tied")) aNil)) (eBin dIx (eVarI 4) (eC (.int 0)))) (eC .non))))))))))
def tl__law_fault_3 : Ev → M Out := (sSeq (sIf (bOf (eBin dEqS (eBin dIx (eVarI 2) (eC (.int 0))) (eC (.str "free")))) (sSeq (sSet 5 (eCallU m__law_claws (aCons (eVar 1) aNil))) (sRet (eIf (bOf (eBin dNeX (eCall dLen (aCons (eVarI 2) aNil)) (eC (.int 1)))) (eTup (aCons (eC (.str "form")) aNil)) (eIf (bOf (eBin dNeX (eVarI 5) (eLst aNil))) (eBin dAdd (eTup (aCons (eC (.str "claw")) aNil)) (eBin dIx (eVarI 5) (eC (.int 0)))) (eC .non))))) sNil) (sSeq (sIf (bOf (eBin dNeX (eCall dLen (aCons (eVarI 2) aNil)) (eC (.int 5)))) (sRet (eTup (aCons (eC (.str "form")) aNil))) sNil) (sSeq (sIf (bOf (eBin dNeX (eLc [10] (iSeq (eSl (eVarI 2) (oSome (eC (.int 1))) oNone)) (gN 10) ct__law_fault_1 ce__law_fault_1) (eLst aNil))) (sRet (eTup (aCons (eC (.str "form")) aNil))) sNil) (sSeq (sAsg (gT (gCons0 (gN 6) (gCons0 (gN 7) (gCons0 (gN 8) (gCons0 (gN 9) gNil0))))) (eSl (eVarI 2) (oSome (eC (.int 1))) oNone)) (sSeq (sIf (bNot (bOf (eChain dLt dLt (eVarI 7) (eVarI 8) (eVarI 9)))) (sRet (eTup (aCons (eC (.str "form")) aNil))) sNil) (sSeq (sSet 3 (eLc [10] (iSeq (eTup (aCons (eVar 7) (aCons (eVar 8) (aCons (eVar 9) aNil))))) (gN 10) ct__law_fault_2 ce__law_fault_2)) (sSeq (sIf (bOf (eBin dNeX (eVarI 3) (eLst aNil))) (sRet (eTup (aCons (eC (.str "loose")) (aCons (eBin dIx (eVarI 3) (eC (.int 0))) aNil)))) sNil) (sSeq (sSet 4 (eLc [10, 11] (iSeq (eTup (aCons (eTup (aCons (eVar 7) (aCons (eVar 8) aNil))) (aCons (eTup (aCons (eVar 7) (aCons (eVar 9) aNil))) (aCons (eTup (aCons (eVar 8) (aCons (eVar 9) aNil))) aNil))))) (gT (gCons0 (gN 10) (gCons0 (gN 11) gNil0))) ct__law_fault_3 ce__law_fault_3)) (sRet (eIf (bOf (eBin dNeX (eVarI 4) (eLst aNil))) (eBin dAdd (eTup (aCons (eC (.str "tied")) aNil)) (eBin dIx (eVarI 4) (eC (.int 0)))) (eC .non)))))))))))
def tl__law_fault_1 : Ev → M Out := (sSeq (sIf (bOr (bNot (bOf (eIsiX "tuple" (eVarI 2)))) (bOf (eBin dNotIn (eCall dReprX (aCons (eSl (eVarI 2) oNone (oSome (eC (.int 1)))) aNil)) (eTup (aCons (eC (.str "('claw',)")) (aCons (eC (.str "('free',)")) aNil)))))) (sRet (eTup (aCons (eC (.str "form")) aNil))) sNil) (sSeq (sIf (bOf (eBin dEqS (eBin dIx (eVarI 2) (eC (.int 0))) (eC (.str "free")))) (sSeq (sSet 5 (eCallU m__law_claws (aCons (eVar 1) aNil))) (sRet (eIf (bOf (eBin dNeX (eCall dLen (aCons (eVarI 2) aNil)) (eC (.int 1)))) (eTup (aCons (eC (.str "form")) aNil)) (eIf (bOf (eBin dNeX (eVarI 5) (eLst aNil))) (eBin dAdd (eTup (aCons (eC (.str "claw")) aNil)) (eBin dIx (eVarI 5) (eC (.int 0)))) (eC .non))))) sNil) (sSeq (sIf (bOf (eBin dNeX (eCall dLen (aCons (eVarI 2) aNil)) (eC (.int 5)))) (sRet (eTup (aCons (eC (.str "form")) aNil))) sNil) (sSeq (sIf (bOf (eBin dNeX (eLc [10] (iSeq (eSl (eVarI 2) (oSome (eC (.int 1))) oNone)) (gN 10) ct__law_fault_1 ce__law_fault_1) (eLst aNil))) (sRet (eTup (aCons (eC (.str "form")) aNil))) sNil) (sSeq (sAsg (gT (gCons0 (gN 6) (gCons0 (gN 7) (gCons0 (gN 8) (gCons0 (gN 9) gNil0))))) (eSl (eVarI 2) (oSome (eC (.int 1))) oNone)) (sSeq (sIf (bNot (bOf (eChain dLt dLt (eVarI 7) (eVarI 8) (eVarI 9)))) (sRet (eTup (aCons (eC (.str "form")) aNil))) sNil) (sSeq (sSet 3 (eLc [10] (iSeq (eTup (aCons (eVar 7) (aCons (eVar 8) (aCons (eVar 9) aNil))))) (gN 10) ct__law_fault_2 ce__law_fault_2)) (sSeq (sIf (bOf (eBin dNeX (eVarI 3) (eLst aNil))) (sRet (eTup (aCons (eC (.str "loose")) (aCons (eBin dIx (eVarI 3) (eC (.int 0))) aNil)))) sNil) (sSeq (sSet 4 (eLc [10, 11] (iSeq (eTup (aCons (eTup (aCons (eVar 7) (aCons (eVar 8) aNil))) (aCons (eTup (aCons (eVar 7) (aCons (eVar 9) aNil))) (aCons (eTup (aCons (eVar 8) (aCons (eVar 9) aNil))) aNil))))) (gT (gCons0 (gN 10) (gCons0 (gN 11) gNil0))) ct__law_fault_3 ce__law_fault_3)) (sRet (eIf (bOf (eBin dNeX (eVarI 4) (eLst aNil))) (eBin dAdd (eTup (aCons (eC (.str "tied")) aNil)) (eBin dIx (eVarI 4) (eC (.int 0)))) (eC .non))))))))))))
def fb__law_fault : Ev → M Out := (sSeq (sIf (bOr (bNot (bOf (eIsiX "tuple" (eVarI 2)))) (bOf (eBin dNotIn (eCall dReprX (aCons (eSl (eVarI 2) oNone (oSome (eC (.int 1)))) aNil)) (eTup (aCons (eC (.str "('claw',)")) (aCons (eC (.str "('free',)")) aNil)))))) (sRet (eTup (aCons (eC (.str "form")) aNil))) sNil) (sSeq (sIf (bOf (eBin dEqS (eBin dIx (eVarI 2) (eC (.int 0))) (eC (.str "free")))) (sSeq (sSet 5 (eCallU m__law_claws (aCons (eVar 1) aNil))) (sRet (eIf (bOf (eBin dNeX (eCall dLen (aCons (eVarI 2) aNil)) (eC (.int 1)))) (eTup (aCons (eC (.str "form")) aNil)) (eIf (bOf (eBin dNeX (eVarI 5) (eLst aNil))) (eBin dAdd (eTup (aCons (eC (.str "claw")) aNil)) (eBin dIx (eVarI 5) (eC (.int 0)))) (eC .non))))) sNil) (sSeq (sIf (bOf (eBin dNeX (eCall dLen (aCons (eVarI 2) aNil)) (eC (.int 5)))) (sRet (eTup (aCons (eC (.str "form")) aNil))) sNil) (sSeq (sIf (bOf (eBin dNeX (eLc [10] (iSeq (eSl (eVarI 2) (oSome (eC (.int 1))) oNone)) (gN 10) ct__law_fault_1 ce__law_fault_1) (eLst aNil))) (sRet (eTup (aCons (eC (.str "form")) aNil))) sNil) (sSeq (sAsg (gT (gCons0 (gN 6) (gCons0 (gN 7) (gCons0 (gN 8) (gCons0 (gN 9) gNil0))))) (eSl (eVarI 2) (oSome (eC (.int 1))) oNone)) (sSeq (sIf (bNot (bOf (eChain dLt dLt (eVarI 7) (eVarI 8) (eVarI 9)))) (sRet (eTup (aCons (eC (.str "form")) aNil))) sNil) (sSeq (sSet 3 (eLc [10] (iSeq (eTup (aCons (eVar 7) (aCons (eVar 8) (aCons (eVar 9) aNil))))) (gN 10) ct__law_fault_2 ce__law_fault_2)) (sSeq (sIf (bOf (eBin dNeX (eVarI 3) (eLst aNil))) (sRet (eTup (aCons (eC (.str "loose")) (aCons (eBin dIx (eVarI 3) (eC (.int 0))) aNil)))) sNil) (sSeq (sSet 4 (eLc [10, 11] (iSeq (eTup (aCons (eTup (aCons (eVar 7) (aCons (eVar 8) aNil))) (aCons (eTup (aCons (eVar 7) (aCons (eVar 9) aNil))) (aCons (eTup (aCons (eVar 8) (aCons (eVar 9) aNil))) aNil))))) (gT (gCons0 (gN 10) (gCons0 (gN 11) gNil0))) ct__law_fault_3 ce__law_fault_3)) (sRet (eIf (bOf (eBin dNeX (eVarI 4) (eLst aNil))) (eBin dAdd (eTup (aCons (eC (.str "tied")) aNil)) (eBin dIx (eVarI 4) (eC (.int 0)))) (eC .non))))))))))))
theorem sc__law_fault : FnScope ["web", "near", "value", "loose", "tied", "claws", "c", "a", "b", "d", "x", "y"] ["web", "near", "value"] (defScope st__law_fault) := ⟨rfl, rfl, rfl, by decide +kernel, rfl, by decide +kernel, by decide +kernel⟩
def m__law_fault : List D → M D := fnM 12 [false, false, false] fb__law_fault
theorem un__law_fault (x0 x1 x2 : D) : m__law_fault [x0, x1, x2] = fb__law_fault [some (.s x0), some (.s x1), some (.s x2), none, none, none, none, none, none, none, none, none] >>= endM := by unfold m__law_fault fnM startE; simp only [List.zipWith_cons_cons, List.zipWith_nil_left, List.zipWith_nil_right, EV.cellOf, List.map_cons, List.map_nil, List.length_cons, List.length_nil, List.cons_append, List.nil_append, Nat.reduceAdd, Nat.reduceSub, List.replicate_succ, List.replicate_zero]
theorem ok__law_fault {P : Program} {w : World} {K : PySem.W.Frag} {mg : Str → Option Value} {base : Heap} {f : Addr} {fd : FuncData} (Fn : Fun K "_law_fault" "_law_fault" st__law_fault f fd) (m_bool : mg "bool" = none) (m_int : mg "int" = none) (m_isinstance : mg "isinstance" = none) (m_len : mg "len" = none) (m_repr : mg "repr" = none) (m_tuple : mg "tuple" = none) (h__law_claws : FnV P w K mg base 1 "_law_claws" [false] m__law_claws) :
    FnG P w K mg base 2 f fd ["web", "near", "value"] (spD [false, false, false] m__law_fault) := fn_evG Fn sc__law_fault rfl fun cdv A outer s H E hg hr => by
  have u1 := room_u hr 1 (by decide)
  have u64 := room_u hr 64 (by decide)
  have u65 := room_u hr 65 (by decide)
  have u66 := room_u hr 66 (by decide)
  have nd := sc__law_fault.nd
  exact (sss_cons (ss_if ((ew_or (eb_not (eb_val ((ee_isiX PyProof.Rows.boot_tuple askedX_tuple m_isinstance m_tuple (ei_var 2))).i)) (ew_or1 (eb_cmp (op_notInAll u65) opv_notIn ((ee_callB (cr_reprX hg u66) cv_reprX m_repr PyProof.Rows.boot_repr (ea_b ((ee_sl (ei_var 2) eo_none (eo_some (ee_int).i))).i ea_nil))).i ((ee_tup (ea_s ee_str (ea_s ee_str ea_nil)))).i)))).eb (sss_one (ss_ret (ee_tup (ea_s ee_str ea_nil)))) sss_nil) (sss_cons (ss_if (eb_cmp op_eq opv_eqS ((ee_ix u1 (ei_var 2) (ee_int).i)).i (ee_str).i) (sss_cons (ss_set 5 nd (ee_call h__law_claws hr (ea_s (ee_var 1) ea_nil))) (sss_one (ss_ret (ee_if (eb_cmp (op_neX u64) opv_neX ((ee_callB cr_lenAll cv_len m_len PySem.boot_len (ea_b (ei_var 2) ea_nil))).i (ee_int).i) (ee_tup (ea_s ee_str ea_nil)) (ee_if (eb_cmp (op_neX u64) opv_neX (ei_var 5) (((en_lst ea_nil)).ee).i) (ee_bin op_addAll opv_add ((ee_tup (ea_s ee_str ea_nil))).i ((ee_ix u1 (ei_var 5) (ee_int).i)).i) ee_non))))) sss_nil) (sss_cons (ss_if (eb_cmp (op_neX u64) opv_neX ((ee_callB cr_lenAll cv_len m_len PySem.boot_len (ea_b (ei_var 2) ea_nil))).i (ee_int).i) (sss_one (ss_ret (ee_tup (ea_s ee_str ea_nil)))) sss_nil) (sss_cons (ss_if (eb_cmp (op_neX u64) opv_neX (((en_lc (own := [("x", 10)]) nd rfl (by rfl) (ic_seq ((ee_sl (ei_var 2) (eo_some (ee_int).i) eo_none)).i) (fun _ _ _ _ _ => (eg_name 10 nd)) (fun _ _ _ _ _ => (ets_one ((ew_or (eb_not (eb_val ((ee_isiX PyProof.Rows.boot_int askedX_int m_isinstance m_int (ei_var 10))).i)) (ew_or (eb_val ((ee_isiX PyProof.Rows.boot_bool askedX_bool m_isinstance m_bool (ei_var 10))).i) (ew_or1 (eb_not (eb_chain op_le opv_le op_lt opv_lt (ee_int).i (ei_var 10) ((ee_ix u1 (ei_var 0) (ee_int).i)).i)))))).eb)) (fun _ _ _ _ _ => (ee_var 10)))).ee).i (((en_lst ea_nil)).ee).i) (sss_one (ss_ret (ee_tup (ea_s ee_str ea_nil)))) sss_nil) (sss_cons (ss_asg (is := [6, 7, 8, 9]) (ee_sl (ei_var 2) (eo_some (ee_int).i) eo_none) (eg_tup rfl (egs_cons (eg_name 6 nd) (egs_cons (eg_name 7 nd) (egs_cons (eg_name 8 nd) (egs_cons (eg_name 9 nd) egs_nil)))) (len_cons (len_cons (len_cons (len_cons (fun _ _ _ => len_nil))))))) (sss_cons (ss_if (eb_not (eb_chain op_lt opv_lt op_lt opv_lt (ei_var 7) (ei_var 8) (ei_var 9))) (sss_one (ss_ret (ee_tup (ea_s ee_str ea_nil)))) sss_nil) (sss_cons (ss_lc (i := 3) (own := [("x", 10)]) (b := true) nd rfl (by rfl) (ic_seq ((ee_tup (ea_s (ee_var 7) (ea_s (ee_var 8) (ea_s (ee_var 9) ea_nil))))).i) (fun _ _ _ _ _ => (eg_name 10 nd)) (fun _ _ _ _ _ => (ets_one (eb_cmp (op_notInAll u65) opv_notIn (ei_var 10) ((ee_ix u1 (ei_var 1) (ei_var 6))).i))) (fun _ _ _ _ _ => (ee_var 10)) rfl (sw_true rfl rfl rfl rfl)).2.1 (sss_cons (ss_if (eb_cmp (op_neX u64) opv_neX (ei_var 3) (((en_lst ea_nil)).ee).i) (sss_one (ss_ret (ee_tup (ea_s ee_str (ea_s (ee_ix u1 (ei_var 3) (ee_int).i) ea_nil))))) sss_nil) (sss_cons (ss_lc (i := 4) (own := [("x", 10), ("y", 11)]) (b := true) nd rfl (by rfl) (ic_seq ((ee_tup (ea_s (ee_tup (ea_s (ee_var 7) (ea_s (ee_var 8) ea_nil))) (ea_s (ee_tup (ea_s (ee_var 7) (ea_s (ee_var 9) ea_nil))) (ea_s (ee_tup (ea_s (ee_var 8) (ea_s (ee_var 9) ea_nil))) ea_nil))))).i) (fun _ _ _ _ _ => (eg_tup rfl (egs_cons (eg_name 10 nd) (egs_cons (eg_name 11 nd) egs_nil)) (len_cons (len_cons (fun _ _ _ => len_nil))))) (fun _ _ _ _ _ => (ets_one (eb_cmp (op_inAll u65) opv_in (ei_var 11) ((ee_ix u1 (ei_var 1) (ei_var 10))).i))) (fun _ _ _ _ _ => (ee_tup (ea_s (ee_var 10) (ea_s (ee_var 11) ea_nil)))) rfl (sw_true rfl rfl rfl rfl)).2.1 (sss_one (ss_ret (ee_if (eb_cmp (op_neX u64) opv_neX (ei_var 4) (((en_lst ea_nil)).ee).i) (ee_bin op_addAll opv_add ((ee_tup (ea_s ee_str ea_nil))).i ((ee_ix u1 (ei_var 4) (ee_int).i)).i) ee_non))))))))))))
abbrev st__law_near : Stmt := topS 17
def bn__law_near_1 : Ev → List D → M (List D) := (nSeq (nApp (eVar 2) (eVar 3)) (nApp (eVar 3) (eVar 2)))
def ce__law_near_1 : Ev → M D := (eCall dSorted (aCons (eVarI 4) aNil))
def fb__law_near : Ev → M Out := (sNest 1 (eLcN [2] (iSh (iRng rng1 (aCons (eBin dIx (eVarI 0) (eC (.int 0))) aNil))) (gN 2) bYes (eLst aNil)) (iSeq (eBin dIx (eVarI 0) (eC (.int 1)))) (gT (gCons0 (gN 2) (gCons0 (gN 3) gNil0))) bn__law_near_1 (sRet (eLc [4] (iSeq (eVarI 1)) (gN 4) bYes ce__law_near_1)))
theorem sc__law_near : FnScope ["web", "found", "a", "b", "some"] ["web"] (defScope st__law_near) := ⟨rfl, rfl, rfl, by decide +kernel, rfl, by decide +kernel, by decide +kernel⟩
def m__law_near : List D → M D := fnM 5 [false] fb__law_near
theorem un__law_near (x0 : D) : m__law_near [x0] = fb__law_near [some (.s x0), none, none, none, none] >>= endM := by unfold m__law_near fnM startE; simp only [List.zipWith_cons_cons, List.zipWith_nil_left, List.zipWith_nil_right, EV.cellOf, List.map_cons, List.map_nil, List.length_cons, List.length_nil, List.cons_append, List.nil_append, Nat.reduceAdd, Nat.reduceSub, List.replicate_succ, List.replicate_zero]
theorem ok__law_near {P : Program} {w : World} {K : PySem.W.Frag} {mg : Str → Option Value} {base : Heap} {f : Addr} {fd : FuncData} (Fn : Fun K "_law_near" "_law_near" st__law_near f fd) (m_range : mg "range" = none) (m_sorted : mg "sorted" = none) :
    FnOk P w K mg base CX0 1 f fd ["web"] (spD [false] m__law_near) := fn_ev Fn sc__law_near rfl fun cdv A outer s H E hr => by
  have u1 := room_u hr 1 (by decide)
  have u64 := room_u hr 64 (by decide)
  have u65 := room_u hr 65 (by decide)
  have u66 := room_u hr 66 (by decide)
  have nd := sc__law_near.nd
  exact (ss_nest (i := 1) (own := [("a", 2)]) (is := [2, 3]) nd rfl (by rfl) ((is_rng1 m_range (ea_b ((ee_ix u1 (ei_var 0) (ee_int).i)).i ea_nil))).c (fun _ _ _ _ _ => (eg_name 2 nd)) (fun _ _ _ _ _ => ets_nil) (fun _ _ _ _ _ => (en_lst ea_nil)) (sw_true rfl rfl rfl rfl) PassesOwn.never (is_seq (ee_ix u1 (ei_var 0) (ee_int).i)) (eg_tup rfl (egs_cons (eg_name 2 nd) (egs_cons (eg_name 3 nd) egs_nil)) (len_cons (len_cons (fun _ _ _ => len_nil)))) (sns_cons (sn_app rfl (ee_var 2) (ee_var 3)) (sns_one (sn_app rfl (ee_var 3) (ee_var 2)))) (sss_one (ss_ret ((en_lc (own := [("some", 4)]) nd rfl (by rfl) (ic_seq (ei_var 1)) (fun _ _ _ _ _ => (eg_name 4 nd)) (fun _ _ _ _ _ => ets_nil) (fun _ _ _ _ _ => (ee_callB (cr_sortD u64) cv_sorted m_sorted PyProof.Rows.boot_sorted (ea_b (ei_var 4) ea_nil))))).ee)))
abbrev st__law_of : Stmt := topS 16
def fb__law_of : Ev → M Out := (sRet (eBin dIx (eVarI 1) (eCallU m__law_pick (aCons (eVar 0) (aCons (eCall dLen (aCons (eVarI 1) aNil)) aNil)))))
theorem sc__law_of : FnScope ["source", "some"] ["source", "some"] (defScope st__law_of) := ⟨rfl, rfl, rfl, by decide +kernel, rfl, by decide +kernel, by decide +kernel⟩
def m__law_of : List D → M D := fnM 2 [false, false] fb__law_of
theorem un__law_of (x0 x1 : D) : m__law_of [x0, x1] = fb__law_of [some (.s x0), some (.s x1)] >>= endM := by unfold m__law_of fnM startE; simp only [List.zipWith_cons_cons, List.zipWith_nil_left, List.zipWith_nil_right, EV.cellOf, List.map_cons, List.map_nil, List.length_cons, List.length_nil, List.cons_append, List.nil_append, Nat.reduceAdd, Nat.reduceSub, List.replicate_succ, List.replicate_zero]
theorem ok__law_of {P : Program} {w : World} {K : PySem.W.Frag} {mg : Str → Option Value} {base : Heap} {f : Addr} {fd : FuncData} (Fn : Fun K "_law_of" "_law_of" st__law_of f fd) (m_len : mg "len" = none) (h__law_pick : FnV P w K mg base 1 "_law_pick" [false, false] m__law_pick) :
    FnOk P w K mg base CX0 2 f fd ["source", "some"] (spD [false, false] m__law_of) := fn_ev Fn sc__law_of rfl fun cdv A outer s H E hr => by
  have u1 := room_u hr 1 (by decide)
  have u64 := room_u hr 64 (by decide)
  have u65 := room_u hr 65 (by decide)
  have u66 := room_u hr 66 (by decide)
  have nd := sc__law_of.nd
  exact (sss_one (ss_ret (ee_ix u1 (ei_var 1) ((ee_call h__law_pick hr (ea_s (ee_var 0) (ea_s (ee_callB cr_lenAll cv_len m_len PySem.boot_len (ea_b (ei_var 1) ea_nil)) ea_nil)))).i)))
abbrev st__law_open_cells : Stmt := topS 13
theorem sc__law_open_cells : FnScope ["script", "stirred", "cell", "cells"] ["script"] (defScope st__law_open_cells) := ⟨rfl, rfl, rfl, by decide +kernel, rfl, by decide +kernel, by decide +kernel⟩
theorem ok__law_open_cells {P : Program} {w : World} {K : PySem.W.Frag} {mg : Str → Option Value} {base : Heap} {f : Addr} {fd : FuncData} (Fn : Fun K "_law_open_cells" "_law_open_cells" st__law_open_cells f fd) (m_int : mg "int" = none) (m_abs : mg "abs" = none) : FnOk P w K mg base CX0 1 f fd ["script"] (spOpen K) := by
  have nd := sc__law_open_cells.nd
  refine Fn.ok sc__law_open_cells (fun vs H Q E h => ?_) (fun cdv A outer s H vs Q E hr h => ?_)
  · obtain ⟨a, ns, rfl, _⟩ := h
    rfl
  · obtain ⟨a, ns, rfl, hS, hl, q⟩ := h
    refine ⟨tOpen K, pss_cons (ps_set (i := 1) nd rfl (by first | exact Or.inl rfl | exact Or.inr rfl) pe_int) (pss_cons (ps_for PassesOwn.never rfl (pi_list (pv 0)) (pg_name (i := 2) nd rfl (by first | exact Or.inl rfl | exact Or.inr rfl))
      (pss_one (ps_set (i := 1) nd rfl (by first | exact Or.inl rfl | exact Or.inr rfl) (pe_op op_mod (pe_callTy call_int1 (by rfl) m_int PyProof.Rows.boot_int (pa_cons (pe_op op_add (pe_op op_add (pe_op op_mul (pv 1) pe_int) (pe_op op_mul (pv 2) pe_int)) pe_int) pa_nil)) pe_int))))
      (pss_cons (ps_setLc (i := 3) (own := [("cell", 2)]) rfl nd rfl rfl (sw_true rfl rfl rfl rfl) (pi_list (pv 0)) (blkOk_by (by rfl)) (fun _ _ _ _ _ => pg_name (i := 2) nd rfl (by first | exact Or.inl rfl | exact Or.inr rfl)) (fun _ _ _ _ _ => pts_nil) (fun _ _ _ _ _ => pe_callB call_abs (by rfl) m_abs PyProof.Rows.boot_abs (pa_cons (pv 2) pa_nil)))
      (pss_one (ps_ret (pe_disp (pps_cons pe_str (pe_revL (pv 3)) (pps_cons pe_str pe_int (pps_cons pe_str (pv 1) (pps_cons pe_str pe_int pps_nil)))) (by rfl) (by rfl) (by simp) (by decide)))))), ?_⟩
    exact open_sem (K := K) rfl hS hl q
abbrev st__law_named : Stmt := topS 18
def ce__law_named_1 : Ev → M D := (eTup (aCons (eCall dTuple (aCons (eCall dSorted (aCons (eLst (aCons (eBin dIx (eVarI 3) (eVarI 4)) (aCons (eBin dIx (eVarI 3) (eVarI 5)) aNil))) aNil)) aNil)) (aCons (eC (.int 0)) aNil)))
def fb__law_named : Ev → M Out := (sSeq (sSet 3 (eCallU m__law_any_order (aCons (eVar 0) (aCons (eRgL (aCons (eVarI 1) aNil)) aNil)))) (sRet (eTup (aCons (eVar 1) (aCons (eCall dTuple (aCons (eCall dSortK (aCons (eCall (dDict true) (aCons (eLc [4, 5] (iSeq (eVarI 2)) (gT (gCons0 (gN 4) (gCons0 (gN 5) gNil0))) bYes ce__law_named_1) aNil)) aNil)) aNil)) aNil)))))
theorem sc__law_named : FnScope ["source", "n", "ties", "names", "a", "b"] ["source", "n", "ties"] (defScope st__law_named) := ⟨rfl, rfl, rfl, by decide +kernel, rfl, by decide +kernel, by decide +kernel⟩
def m__law_named : List D → M D := fnM 6 [false, false, false] fb__law_named
theorem un__law_named (x0 x1 x2 : D) : m__law_named [x0, x1, x2] = fb__law_named [some (.s x0), some (.s x1), some (.s x2), none, none, none] >>= endM := by unfold m__law_named fnM startE; simp only [List.zipWith_cons_cons, List.zipWith_nil_left, List.zipWith_nil_right, EV.cellOf, List.map_cons, List.map_nil, List.length_cons, List.length_nil, List.cons_append, List.nil_append, Nat.reduceAdd, Nat.reduceSub, List.replicate_succ, List.replicate_zero]
theorem ok__law_named {P : Program} {w : World} {K : PySem.W.Frag} {mg : Str → Option Value} {base : Heap} {f : Addr} {fd : FuncData} (Fn : Fun K "_law_named" "_law_named" st__law_named f fd) (m_dict : mg "dict" = none) (m_list : mg "list" = none) (m_range : mg "range" = none) (m_sorted : mg "sorted" = none) (m_tuple : mg "tuple" = none) (h__law_any_order : FnV P w K mg base 2 "_law_any_order" [false, false] m__law_any_order) :
    FnOk P w K mg base CX0 3 f fd ["source", "n", "ties"] (spD [false, false, false] m__law_named) := fn_ev Fn sc__law_named rfl fun cdv A outer s H E hr => by
  have u1 := room_u hr 1 (by decide)
  have u64 := room_u hr 64 (by decide)
  have u65 := room_u hr 65 (by decide)
  have u66 := room_u hr 66 (by decide)
  have nd := sc__law_named.nd
  exact (sss_cons (ss_set 3 nd (ee_call h__law_any_order hr (ea_s (ee_var 0) (ea_s ((en_rgL1 m_range m_list (ei_var 1))).ee ea_nil)))) (sss_one (ss_ret (ee_tup (ea_s (ee_var 1) (ea_s (ee_callTy call_tuple_of cv_tuple m_tuple PyProof.Rows.boot_tuple (ea_b ((ee_callB (cr_sortK rfl u64) cv_sortK m_sorted PyProof.Rows.boot_sorted (ea_b (((en_callTy (cr_dictT rfl u64) cn_dictT m_dict PyProof.Rows.boot_dict (ea_b (((en_lc (own := [("a", 4), ("b", 5)]) nd rfl (by rfl) (ic_seq (ei_var 2)) (fun _ _ _ _ _ => (eg_tup rfl (egs_cons (eg_name 4 nd) (egs_cons (eg_name 5 nd) egs_nil)) (len_cons (len_cons (fun _ _ _ => len_nil))))) (fun _ _ _ _ _ => ets_nil) (fun _ _ _ _ _ => (ee_tup (ea_s (ee_callTy call_tuple_of cv_tuple m_tuple PyProof.Rows.boot_tuple (ea_b ((ee_callB (cr_sortD u64) cv_sorted m_sorted PyProof.Rows.boot_sorted (ea_b (((en_lst (ea_s (ee_ix u1 (ei_var 3) (ei_var 4)) (ea_s (ee_ix u1 (ei_var 3) (ei_var 5)) ea_nil)))).ee).i ea_nil))).i ea_nil)) (ea_s ee_int ea_nil)))))).ee).i ea_nil))).ee).i ea_nil))).i ea_nil)) ea_nil))))))
abbrev st__law_tree : Stmt := topS 19
def bd__law_tree_1 : Ev → M Out := (sSeq (sSet 5 (eLst (aCons (eCallU m__law_pick (aCons (eVar 0) (aCons (eVar 2) aNil))) (aCons (eBin dSub (eBin dSub (eVarI 2) (eC (.int 1))) (eCallU m__law_pick (aCons (eVar 0) (aCons (eCall dMin2 (aCons (eVarI 2) (aCons (eC (.int 2)) aNil))) aNil)))) (aCons (eCallU m__law_pick (aCons (eVar 0) (aCons (eCall dMin2 (aCons (eVarI 2) (aCons (eC (.int 2)) aNil))) aNil))) (aCons (eBin dSub (eVarI 2) (eC (.int 1))) aNil)))))) (sMeth 4 hAppend (aCons (eTup (aCons (eBin dIx (eVarI 5) (eVarI 3)) (aCons (eVar 2) aNil))) aNil)))
def fb__law_tree : Ev → M Out := (sSeq (sPar [3, 4] (cS (eCallU m__law_pick (aCons (eVar 0) (aCons (eC (.int 4)) aNil))) (cO (eLst aNil) cNil))) (sSeq (sFor (iRng rng2 (aCons (eC (.int 1)) (aCons (eVarI 1) aNil))) (gN 2) bd__law_tree_1) (sFrz 4 (sRet (eCallU m__law_named (aCons (eVar 0) (aCons (eVar 1) (aCons (eVar 4) aNil))))))))
theorem sc__law_tree : FnScope ["source", "n", "b", "way", "ties", "some"] ["source", "n"] (defScope st__law_tree) := ⟨rfl, rfl, rfl, by decide +kernel, rfl, by decide +kernel, by decide +kernel⟩
def m__law_tree : List D → M D := fnM 6 [false, false] fb__law_tree
theorem un__law_tree (x0 x1 : D) : m__law_tree [x0, x1] = fb__law_tree [some (.s x0), some (.s x1), none, none, none, none] >>= endM := by unfold m__law_tree fnM startE; simp only [List.zipWith_cons_cons, List.zipWith_nil_left, List.zipWith_nil_right, EV.cellOf, List.map_cons, List.map_nil, List.length_cons, List.length_nil, List.cons_append, List.nil_append, Nat.reduceAdd, Nat.reduceSub, List.replicate_succ, List.replicate_zero]
theorem ok__law_tree {P : Program} {w : World} {K : PySem.W.Frag} {mg : Str → Option Value} {base : Heap} {f : Addr} {fd : FuncData} (Fn : Fun K "_law_tree" "_law_tree" st__law_tree f fd) (m_min : mg "min" = none) (m_range : mg "range" = none) (h__law_named : FnV P w K mg base 3 "_law_named" [false, false, false] m__law_named) (h__law_pick : FnV P w K mg base 1 "_law_pick" [false, false] m__law_pick) :
    FnOk P w K mg base CX0 4 f fd ["source", "n"] (spD [false, false] m__law_tree) := fn_ev Fn sc__law_tree rfl fun cdv A outer s H E hr => by
  have u1 := room_u hr 1 (by decide)
  have u64 := room_u hr 64 (by decide)
  have u65 := room_u hr 65 (by decide)
  have u66 := room_u hr 66 (by decide)
  have nd := sc__law_tree.nd
  have h__law_pick := h__law_pick.mono (k := 3) (by decide)
  exact (sss_cons (ss_par2 3 4 rfl nd (ep_s (ee_call h__law_pick hr (ea_s (ee_var 0) (ea_s ee_int ea_nil))) (ep_o (en_lst ea_nil) ep_nil))) (sss_cons (ss_for (is := [2]) PassesOwn.never rfl (is_rng2 m_range (ea_b (ee_int).i (ea_b (ei_var 1) ea_nil))) (eg_name 2 nd) (sss_cons (ss_set 5 nd ((en_lst (ea_s (ee_call h__law_pick hr (ea_s (ee_var 0) (ea_s (ee_var 2) ea_nil))) (ea_s (ee_bin op_sub opv_sub ((ee_bin op_sub opv_sub (ei_var 2) (ee_int).i)).i ((ee_call h__law_pick hr (ea_s (ee_var 0) (ea_s (ee_callB (call_min2 rfl) cv_min2 m_min PyProof.Rows.boot_min (ea_b (ei_var 2) (ea_b (ee_int).i ea_nil))) ea_nil)))).i) (ea_s (ee_call h__law_pick hr (ea_s (ee_var 0) (ea_s (ee_callB (call_min2 rfl) cv_min2 m_min PyProof.Rows.boot_min (ea_b (ei_var 2) (ea_b (ee_int).i ea_nil))) ea_nil))) (ea_s (ee_bin op_sub opv_sub (ei_var 2) (ee_int).i) ea_nil)))))).ee) (sss_one (ss_meth 4 mv_append ty_append (ps_expr (pe_bm PySem.F.plainAttrs_list PySem.F.slot_list_append PySem.F.type_list_append mt_append (pv 4) (EA.max (ea_s (ee_tup (ea_s (ee_ix u1 (ei_var 5) (ei_var 3)) (ea_s (ee_var 2) ea_nil))) ea_nil)))))))) (sss_one (ss_frz 4 (ss_ret (ee_call h__law_named hr (ea_s (ee_var 0) (ea_s (ee_var 1) (ea_s (ee_var 4) ea_nil)))))))))
abbrev st__law_web : Stmt := topS 20
def ct__law_web_1 : Ev → M Bool := (bOf (eBin dLt (eCallU m__law_pick (aCons (eVar 0) (aCons (eC (.int 8)) aNil))) (eVarI 5)))
def ce__law_web_1 : Ev → M D := (eTup (aCons (eVar 6) (aCons (eVar 2) aNil)))
def bd__law_web_1 : Ev → M Out := (sSet 4 (eBin dAdd (eVarI 4) (eLc [6] (iSh (iRng rng1 (aCons (eVarI 2) aNil))) (gN 6) ct__law_web_1 ce__law_web_1)))
def fb__law_web : Ev → M Out := (sSeq (sPar [4, 5] (cS (eLst aNil) (cS (eCallU m__law_pick (aCons (eVar 0) (aCons (eC (.int 7)) aNil))) cNil))) (sSeq (sFor (iRng rng1 (aCons (eVarI 1) aNil)) (gN 2) bd__law_web_1) (sSeq (sSet 3 (eIf (bAnd (bOf (eBin dGt (eVarI 1) (eC (.int 0)))) (bOf (eBin dEq (eCallU m__law_pick (aCons (eVar 0) (aCons (eC (.int 2)) aNil))) (eC (.int 0))))) (eCall dList (aCons (eBin dIx (eCallU m__law_tree (aCons (eVar 0) (aCons (eVar 1) aNil))) (eC (.int 1))) aNil)) (eLst aNil))) (sRet (eCallU m__law_named (aCons (eVar 0) (aCons (eVar 1) (aCons (eBin dAdd (eVarI 4) (eVarI 3)) aNil))))))))
theorem sc__law_web : FnScope ["source", "n", "b", "more", "ties", "share", "a"] ["source", "n"] (defScope st__law_web) := ⟨rfl, rfl, rfl, by decide +kernel, rfl, by decide +kernel, by decide +kernel⟩
def m__law_web : List D → M D := fnM 7 [false, false] fb__law_web
theorem un__law_web (x0 x1 : D) : m__law_web [x0, x1] = fb__law_web [some (.s x0), some (.s x1), none, none, none, none, none] >>= endM := by unfold m__law_web fnM startE; simp only [List.zipWith_cons_cons, List.zipWith_nil_left, List.zipWith_nil_right, EV.cellOf, List.map_cons, List.map_nil, List.length_cons, List.length_nil, List.cons_append, List.nil_append, Nat.reduceAdd, Nat.reduceSub, List.replicate_succ, List.replicate_zero]
theorem ok__law_web {P : Program} {w : World} {K : PySem.W.Frag} {mg : Str → Option Value} {base : Heap} {f : Addr} {fd : FuncData} (Fn : Fun K "_law_web" "_law_web" st__law_web f fd) (m_list : mg "list" = none) (m_range : mg "range" = none) (h__law_named : FnV P w K mg base 3 "_law_named" [false, false, false] m__law_named) (h__law_pick : FnV P w K mg base 1 "_law_pick" [false, false] m__law_pick) (h__law_tree : FnV P w K mg base 4 "_law_tree" [false, false] m__law_tree) :
    FnOk P w K mg base CX0 5 f fd ["source", "n"] (spD [false, false] m__law_web) := fn_ev Fn sc__law_web rfl fun cdv A outer s H E hr => by
  have u1 := room_u hr 1 (by decide)
  have u64 := room_u hr 64 (by decide)
  have u65 := room_u hr 65 (by decide)
  have u66 := room_u hr 66 (by decide)
  have nd := sc__law_web.nd
  have h__law_named := h__law_named.mono (k := 4) (by decide)
  have h__law_pick := h__law_pick.mono (k := 4) (by decide)
  exact (sss_cons (ss_parN [4, 5] rfl (ep_s ((en_lst ea_nil)).ee (ep_s (ee_call h__law_pick hr (ea_s (ee_var 0) (ea_s ee_int ea_nil))) ep_nil)) (pgs_cons (pg_name (i := 4) nd rfl (by first | exact Or.inl rfl | exact Or.inr rfl)) (pgs_cons (pg_name (i := 5) nd rfl (by first | exact Or.inl rfl | exact Or.inr rfl)) pgs_nil))) (sss_cons (ss_for (is := [2]) PassesOwn.never rfl (is_rng1 m_range (ea_b (ei_var 1) ea_nil)) (eg_name 2 nd) (sss_one (ss_set 4 nd (ee_bin op_addAll opv_add (ei_var 4) (((en_lc (own := [("a", 6)]) nd rfl (by rfl) ((is_rng1 m_range (ea_b (ei_var 2) ea_nil))).c (fun _ _ _ _ _ => (eg_name 6 nd)) (fun _ _ _ _ _ => (ets_one (eb_cmp op_lt opv_lt ((ee_call h__law_pick hr (ea_s (ee_var 0) (ea_s ee_int ea_nil)))).i (ei_var 5)))) (fun _ _ _ _ _ => (ee_tup (ea_s (ee_var 6) (ea_s (ee_var 2) ea_nil)))))).ee).i)))) (sss_cons (ss_set 3 nd (ee_if ((ew_and (eb_cmp op_gt opv_gt (ei_var 1) (ee_int).i) (ew_and1 (eb_cmp (op_eqD u64) opv_eq ((ee_call h__law_pick hr (ea_s (ee_var 0) (ea_s ee_int ea_nil)))).i (ee_int).i)))).eb ((en_callTy call_list_of cn_list m_list PyProof.Rows.boot_list (ea_b ((ee_ix u1 ((ee_call h__law_tree hr (ea_s (ee_var 0) (ea_s (ee_var 1) ea_nil)))).i (ee_int).i)).i ea_nil))).ee ((en_lst ea_nil)).ee)) (sss_one (ss_ret (ee_call h__law_named hr (ea_s (ee_var 0) (ea_s (ee_var 1) (ea_s (ee_bin op_addAll opv_add (ei_var 4) (ei_var 3)) ea_nil)))))))))
abbrev st_all_neighbours : Stmt := topS 2
def bn_all_neighbours_1 : Ev → List D → M (List D) := (nSeq (nApp (eVar 2) (eVar 3)) (nApp (eVar 3) (eVar 2)))
def ce_all_neighbours_1 : Ev → M D := (eCall dSorted (aCons (eVarI 4) aNil))
def fb_all_neighbours : Ev → M Out := (sNest 1 (eLcN [2] (iSh (iRng rng1 (aCons (eBin dIx (eVarI 0) (eC (.int 0))) aNil))) (gN 2) bYes (eLst aNil)) (iSeq (eBin dIx (eVarI 0) (eC (.int 1)))) (gT (gCons0 (gN 2) (gCons0 (gN 3) gNil0))) bn_all_neighbours_1 (sRet (eLc [4] (iSeq (eVarI 1)) (gN 4) bYes ce_all_neighbours_1)))
theorem sc_all_neighbours : FnScope ["web", "found", "a", "b", "some"] ["web"] (defScope st_all_neighbours) := ⟨rfl, rfl, rfl, by decide +kernel, rfl, by decide +kernel, by decide +kernel⟩
def m_all_neighbours : List D → M D := fnM 5 [false] fb_all_neighbours
theorem un_all_neighbours (x0 : D) : m_all_neighbours [x0] = fb_all_neighbours [some (.s x0), none, none, none, none] >>= endM := by unfold m_all_neighbours fnM startE; simp only [List.zipWith_cons_cons, List.zipWith_nil_left, List.zipWith_nil_right, EV.cellOf, List.map_cons, List.map_nil, List.length_cons, List.length_nil, List.cons_append, List.nil_append, Nat.reduceAdd, Nat.reduceSub, List.replicate_succ, List.replicate_zero]
theorem ok_all_neighbours {P : Program} {w : World} {K : PySem.W.Frag} {mg : Str → Option Value} {base : Heap} {f : Addr} {fd : FuncData} (Fn : Fun K "all_neighbours" "all_neighbours" st_all_neighbours f fd) (m_range : mg "range" = none) (m_sorted : mg "sorted" = none) :
    FnOk P w K mg base CX0 1 f fd ["web"] (spD [false] m_all_neighbours) := fn_ev Fn sc_all_neighbours rfl fun cdv A outer s H E hr => by
  have u1 := room_u hr 1 (by decide)
  have u64 := room_u hr 64 (by decide)
  have u65 := room_u hr 65 (by decide)
  have u66 := room_u hr 66 (by decide)
  have nd := sc_all_neighbours.nd
  exact (ss_nest (i := 1) (own := [("a", 2)]) (is := [2, 3]) nd rfl (by rfl) ((is_rng1 m_range (ea_b ((ee_ix u1 (ei_var 0) (ee_int).i)).i ea_nil))).c (fun _ _ _ _ _ => (eg_name 2 nd)) (fun _ _ _ _ _ => ets_nil) (fun _ _ _ _ _ => (en_lst ea_nil)) (sw_true rfl rfl rfl rfl) PassesOwn.never (is_seq (ee_ix u1 (ei_var 0) (ee_int).i)) (eg_tup rfl (egs_cons (eg_name 2 nd) (egs_cons (eg_name 3 nd) egs_nil)) (len_cons (len_cons (fun _ _ _ => len_nil)))) (sns_cons (sn_app rfl (ee_var 2) (ee_var 3)) (sns_one (sn_app rfl (ee_var 3) (ee_var 2)))) (sss_one (ss_ret ((en_lc (own := [("some", 4)]) nd rfl (by rfl) (ic_seq (ei_var 1)) (fun _ _ _ _ _ => (eg_name 4 nd)) (fun _ _ _ _ _ => ets_nil) (fun _ _ _ _ _ => (ee_callB (cr_sortD u64) cv_sorted m_sorted PyProof.Rows.boot_sorted (ea_b (ei_var 4) ea_nil))))).ee)))
abbrev st_claws_at : Stmt := topS 4
def ct_claws_at_1 : Ev → M Bool := (bAnd (bOf (eBin dNotIn (eVarI 8) (eBin dIx (eVarI 0) (eVarI 5)))) (bOf (eBin dNotIn (eVarI 8) (eBin dIx (eVarI 0) (eVarI 7)))))
def ce_claws_at_1 : Ev → M D := (eTup (aCons (eVar 1) (aCons (eVar 5) (aCons (eVar 7) (aCons (eVar 8) aNil)))))
def bd_claws_at_1 : Ev → M Out := (sSeq (sSet 7 (eBin dIx (eVarI 3) (eVarI 6))) (sIf (bOf (eBin dNotIn (eVarI 7) (eBin dIx (eVarI 0) (eVarI 5)))) (sMeth 2 hExtend (aCons (eLc [8] (iSeq (eSl (eVarI 3) (oSome (eBin dAdd (eVarI 6) (eC (.int 1)))) oNone)) (gN 8) ct_claws_at_1 ce_claws_at_1) aNil)) sNil))
def bd_claws_at_2 : Ev → M Out := (sFor (iRng rng2 (aCons (eBin dAdd (eVarI 4) (eC (.int 1))) (aCons (eCall dLen (aCons (eVarI 3) aNil)) aNil))) (gN 6) bd_claws_at_1)
def fb_claws_at : Ev → M Out := (sSeq (sPar [2, 3] (cO (eLst aNil) (cS (eBin dIx (eVarI 0) (eVarI 1)) cNil))) (sSeq (sFor (iEnumA (eVar 3)) (gT (gCons0 (gN 4) (gCons0 (gN 5) gNil0))) bd_claws_at_2) (sRetO 2)))
theorem sc_claws_at : FnScope ["near", "c", "found", "some", "i", "a", "j", "b", "d"] ["near", "c"] (defScope st_claws_at) := ⟨rfl, rfl, rfl, by decide +kernel, rfl, by decide +kernel, by decide +kernel⟩
def m_claws_at : List D → M D := fnM 9 [false, false] fb_claws_at
theorem un_claws_at (x0 x1 : D) : m_claws_at [x0, x1] = fb_claws_at [some (.s x0), some (.s x1), none, none, none, none, none, none, none] >>= endM := by unfold m_claws_at fnM startE; simp only [List.zipWith_cons_cons, List.zipWith_nil_left, List.zipWith_nil_right, EV.cellOf, List.map_cons, List.map_nil, List.length_cons, List.length_nil, List.cons_append, List.nil_append, Nat.reduceAdd, Nat.reduceSub, List.replicate_succ, List.replicate_zero]
theorem ok_claws_at {P : Program} {w : World} {K : PySem.W.Frag} {mg : Str → Option Value} {base : Heap} {f : Addr} {fd : FuncData} (Fn : Fun K "claws_at" "claws_at" st_claws_at f fd) (m_enumerate : mg "enumerate" = none) (m_len : mg "len" = none) (m_range : mg "range" = none) :
    FnOk P w K mg base CX0 1 f fd ["near", "c"] (spD [false, false] m_claws_at) := fn_ev Fn sc_claws_at rfl fun cdv A outer s H E hr => by
  have u1 := room_u hr 1 (by decide)
  have u64 := room_u hr 64 (by decide)
  have u65 := room_u hr 65 (by decide)
  have u66 := room_u hr 66 (by decide)
  have nd := sc_claws_at.nd
  exact (sss_cons (ss_par2 2 3 rfl nd (ep_o (en_lst ea_nil) (ep_s (ee_ix u1 (ei_var 0) (ei_var 1)) ep_nil))) (sss_cons (ss_for (is := [4, 5]) PassesOwn.never rfl (is_enumA m_enumerate (ee_var 3)) (eg_tup rfl (egs_cons (eg_name 4 nd) (egs_cons (eg_name 5 nd) egs_nil)) (len_cons (len_cons (fun _ _ _ => len_nil)))) (sss_one (ss_for (is := [6]) PassesOwn.never rfl (is_rng2 m_range (ea_b ((ee_bin op_addAll opv_add (ei_var 4) (ee_int).i)).i (ea_b ((ee_callB cr_lenAll cv_len m_len PySem.boot_len (ea_b (ei_var 3) ea_nil))).i ea_nil))) (eg_name 6 nd) (sss_cons (ss_set 7 nd (ee_ix u1 (ei_var 3) (ei_var 6))) (sss_one (ss_if (eb_cmp (op_notInAll u65) opv_notIn (ei_var 7) ((ee_ix u1 (ei_var 0) (ei_var 5))).i) (sss_one (ss_meth 2 mv_extend ty_extend (ps_expr (pe_bm PySem.F.plainAttrs_list PySem.F.slot_list_extend PySem.F.type_list_extend mt_extend (pv 2) (EA.max (ea_b (((en_lc (own := [("d", 8)]) nd rfl (by rfl) (ic_seq ((ee_sl (ei_var 3) (eo_some ((ee_bin op_addAll opv_add (ei_var 6) (ee_int).i)).i) eo_none)).i) (fun _ _ _ _ _ => (eg_name 8 nd)) (fun _ _ _ _ _ => (ets_one ((ew_and (eb_cmp (op_notInAll u65) opv_notIn (ei_var 8) ((ee_ix u1 (ei_var 0) (ei_var 5))).i) (ew_and1 (eb_cmp (op_notInAll u65) opv_notIn (ei_var 8) ((ee_ix u1 (ei_var 0) (ei_var 7))).i)))).eb)) (fun _ _ _ _ _ => (ee_tup (ea_s (ee_var 1) (ea_s (ee_var 5) (ea_s (ee_var 7) (ea_s (ee_var 8) ea_nil)))))))).ee).i ea_nil)))))) sss_nil)))))) (sss_one (ss_retO 2))))
abbrev st_first_claw : Stmt := topS 5
def bd_first_claw_1 : Ev → M Out := (sSeq (sSet 3 (eCallU m_claws_at (aCons (eVar 1) (aCons (eVar 2) aNil)))) (sIf (bOf (eBin dNe (eVarI 3) (eLst aNil))) (sRet (eBin dIx (eVarI 3) (eC (.int 0)))) sNil))
def fb_first_claw : Ev → M Out := (sSeq (sSet 1 (eCallU m_all_neighbours (aCons (eVar 0) aNil))) (sSeq (sFor (iRng rng1 (aCons (eBin dIx (eVarI 0) (eC (.int 0))) aNil)) (gN 2) bd_first_claw_1) (sRet (eC .non))))
theorem sc_first_claw : FnScope ["web", "near", "c", "some"] ["web"] (defScope st_first_claw) := ⟨rfl, rfl, rfl, by decide +kernel, rfl, by decide +kernel, by decide +kernel⟩
def m_first_claw : List D → M D := fnM 4 [false] fb_first_claw
theorem un_first_claw (x0 : D) : m_first_claw [x0] = fb_first_claw [some (.s x0), none, none, none] >>= endM := by unfold m_first_claw fnM startE; simp only [List.zipWith_cons_cons, List.zipWith_nil_left, List.zipWith_nil_right, EV.cellOf, List.map_cons, List.map_nil, List.length_cons, List.length_nil, List.cons_append, List.nil_append, Nat.reduceAdd, Nat.reduceSub, List.replicate_succ, List.replicate_zero]
theorem ok_first_claw {P : Program} {w : World} {K : PySem.W.Frag} {mg : Str → Option Value} {base : Heap} {f : Addr} {fd : FuncData} (Fn : Fun K "first_claw" "first_claw" st_first_claw f fd) (m_range : mg "range" = none) (h_all_neighbours : FnV P w K mg base 1 "all_neighbours" [false] m_all_neighbours) (h_claws_at : FnV P w K mg base 1 "claws_at" [false, false] m_claws_at) :
    FnOk P w K mg base CX0 2 f fd ["web"] (spD [false] m_first_claw) := fn_ev Fn sc_first_claw rfl fun cdv A outer s H E hr => by
  have u1 := room_u hr 1 (by decide)
  have u64 := room_u hr 64 (by decide)
  have u65 := room_u hr 65 (by decide)
  have u66 := room_u hr 66 (by decide)
  have nd := sc_first_claw.nd
  exact (sss_cons (ss_set 1 nd (ee_call h_all_neighbours hr (ea_s (ee_var 0) ea_nil))) (sss_cons (ss_for (is := [2]) PassesOwn.never rfl (is_rng1 m_range (ea_b ((ee_ix u1 (ei_var 0) (ee_int).i)).i ea_nil)) (eg_name 2 nd) (sss_cons (ss_set 3 nd (ee_call h_claws_at hr (ea_s (ee_var 1) (ea_s (ee_var 2) ea_nil)))) (sss_one (ss_if (eb_cmp (op_neD u64) opv_ne (ei_var 3) (((en_lst ea_nil)).ee).i) (sss_one (ss_ret (ee_ix u1 (ei_var 3) (ee_int).i))) sss_nil)))) (sss_one (ss_ret ee_non))))
abbrev st_claw_paper : Stmt := topS 9
def fb_claw_paper : Ev → M Out := (sSeq (sSet 1 (eCallU m_first_claw (aCons (eVar 0) aNil))) (sRet (eIf (bOf (eBin dIsNot (eVarI 1) (eC .non))) (eTupS (aCons (eC (.str "claw")) (aStar (eVar 1) aNil))) (eTup (aCons (eC (.str "free")) aNil)))))
theorem sc_claw_paper : FnScope ["web", "told"] ["web"] (defScope st_claw_paper) := ⟨rfl, rfl, rfl, by decide +kernel, rfl, by decide +kernel, by decide +kernel⟩
def m_claw_paper : List D → M D := fnM 2 [false] fb_claw_paper
theorem un_claw_paper (x0 : D) : m_claw_paper [x0] = fb_claw_paper [some (.s x0), none] >>= endM := by unfold m_claw_paper fnM startE; simp only [List.zipWith_cons_cons, List.zipWith_nil_left, List.zipWith_nil_right, EV.cellOf, List.map_cons, List.map_nil, List.length_cons, List.length_nil, List.cons_append, List.nil_append, Nat.reduceAdd, Nat.reduceSub, List.replicate_succ, List.replicate_zero]
theorem ok_claw_paper {P : Program} {w : World} {K : PySem.W.Frag} {mg : Str → Option Value} {base : Heap} {f : Addr} {fd : FuncData} (Fn : Fun K "claw_paper" "claw_paper" st_claw_paper f fd) (h_first_claw : FnV P w K mg base 2 "first_claw" [false] m_first_claw) :
    FnOk P w K mg base CX0 3 f fd ["web"] (spD [false] m_claw_paper) := fn_ev Fn sc_claw_paper rfl fun cdv A outer s H E hr => by
  have u1 := room_u hr 1 (by decide)
  have u64 := room_u hr 64 (by decide)
  have u65 := room_u hr 65 (by decide)
  have u66 := room_u hr 66 (by decide)
  have nd := sc_claw_paper.nd
  exact (sss_cons (ss_set 1 nd (ee_call h_first_claw hr (ea_s (ee_var 0) ea_nil))) (sss_one (ss_ret (ee_if (eb_cmp op_isNotAll opv_isNot (ei_var 1) (ee_non).i) (ee_tupS (eas_cons ee_str (eas_star (ee_var 1) eas_nil))) (ee_tup (ea_s ee_str ea_nil))))))
abbrev st_is_number : Stmt := topS 1
def fb_is_number : Ev → M Out := (sRet (eAnd (eIsiX "int" (eVarI 0)) (eAnd (eNot (eIsiX "bool" (eVarI 0))) (eBin dGe (eVarI 0) (eC (.int 0))))))
theorem sc_is_number : FnScope ["value"] ["value"] (defScope st_is_number) := ⟨rfl, rfl, rfl, by decide +kernel, rfl, by decide +kernel, by decide +kernel⟩
def m_is_number : List D → M D := fnM 1 [false] fb_is_number
theorem un_is_number (x0 : D) : m_is_number [x0] = fb_is_number [some (.s x0)] >>= endM := by unfold m_is_number fnM startE; simp only [List.zipWith_cons_cons, List.zipWith_nil_left, List.zipWith_nil_right, EV.cellOf, List.map_cons, List.map_nil, List.length_cons, List.length_nil, List.cons_append, List.nil_append, Nat.reduceAdd, Nat.reduceSub, List.replicate_succ, List.replicate_zero]
theorem ok_is_number {P : Program} {w : World} {K : PySem.W.Frag} {mg : Str → Option Value} {base : Heap} {f : Addr} {fd : FuncData} (Fn : Fun K "is_number" "is_number" st_is_number f fd) (m_bool : mg "bool" = none) (m_int : mg "int" = none) (m_isinstance : mg "isinstance" = none) :
    FnOk P w K mg base CX0 1 f fd ["value"] (spD [false] m_is_number) := fn_ev Fn sc_is_number rfl fun cdv A outer s H E hr => by
  have u1 := room_u hr 1 (by decide)
  have u64 := room_u hr 64 (by decide)
  have u65 := room_u hr 65 (by decide)
  have u66 := room_u hr 66 (by decide)
  have nd := sc_is_number.nd
  exact (sss_one (ss_ret (ee_and ((ee_isiX PyProof.Rows.boot_int askedX_int m_isinstance m_int (ei_var 0))).i (ee_and ((ee_not ((ee_isiX PyProof.Rows.boot_bool askedX_bool m_isinstance m_bool (ei_var 0))).i)).i (ee_one (ee_cmp op_ge opv_ge (ei_var 0) (ee_int).i))))))
abbrev st_are_places_of : Stmt := topS 7
def ce_are_places_of_1 : Ev → M D := (eAnd (eCallU m_is_number (aCons (eVar 2) aNil)) (eBin dLt (eVarI 2) (eBin dIx (eVarI 0) (eC (.int 0)))))
def fb_are_places_of : Ev → M Out := (sRet (eCall dAll (aCons (eLc [2] (iSeq (eVarI 1)) (gN 2) bYes ce_are_places_of_1) aNil)))
theorem sc_are_places_of : FnScope ["web", "value", "x"] ["web", "value"] (defScope st_are_places_of) := ⟨rfl, rfl, rfl, by decide +kernel, rfl, by decide +kernel, by decide +kernel⟩
def m_are_places_of : List D → M D := fnM 3 [false, false] fb_are_places_of
theorem un_are_places_of (x0 x1 : D) : m_are_places_of [x0, x1] = fb_are_places_of [some (.s x0), some (.s x1), none] >>= endM := by unfold m_are_places_of fnM startE; simp only [List.zipWith_cons_cons, List.zipWith_nil_left, List.zipWith_nil_right, EV.cellOf, List.map_cons, List.map_nil, List.length_cons, List.length_nil, List.cons_append, List.nil_append, Nat.reduceAdd, Nat.reduceSub, List.replicate_succ, List.replicate_zero]
theorem ok_are_places_of {P : Program} {w : World} {K : PySem.W.Frag} {mg : Str → Option Value} {base : Heap} {f : Addr} {fd : FuncData} (Fn : Fun K "are_places_of" "are_places_of" st_are_places_of f fd) (m_all : mg "all" = none) (h_is_number : FnV P w K mg base 1 "is_number" [false] m_is_number) :
    FnOk P w K mg base CX0 2 f fd ["web", "value"] (spD [false, false] m_are_places_of) := fn_ev Fn sc_are_places_of rfl fun cdv A outer s H E hr => by
  have u1 := room_u hr 1 (by decide)
  have u64 := room_u hr 64 (by decide)
  have u65 := room_u hr 65 (by decide)
  have u66 := room_u hr 66 (by decide)
  have nd := sc_are_places_of.nd
  exact (sss_one (ss_ret (ee_callB (cr_all rfl) cv_all m_all PyProof.Rows.boot_all (ea_b (((en_lc (own := [("x", 2)]) nd rfl (by rfl) (ic_seq (ei_var 1)) (fun _ _ _ _ _ => (eg_name 2 nd)) (fun _ _ _ _ _ => ets_nil) (fun _ _ _ _ _ => (ee_and ((ee_call h_is_number hr (ea_s (ee_var 2) ea_nil))).i (ee_one (ee_cmp op_lt opv_lt (ei_var 2) ((ee_ix u1 (ei_var 0) (ee_int).i)).i)))))).ee).i ea_nil))))
abbrev st_claw_fault : Stmt := topS 10
def ct_claw_fault_1 : Ev → M Bool := (bOf (eBin dNotIn (eVarI 6) (eBin dIx (eVarI 3) (eVarI 1))))
def ce_claw_fault_1 : Ev → M D := (eVar 6)
def ct_claw_fault_2 : Ev → M Bool := (bOf (eBin dIn (eVarI 10) (eBin dIx (eVarI 3) (eVarI 9))))
def ce_claw_fault_2 : Ev → M D := (eTup (aCons (eVar 9) (aCons (eVar 10) aNil)))
def fb_claw_fault : Ev → M Out := (sSeq (sSet 3 (eCallU m_all_neighbours (aCons (eVar 0) aNil))) (sSeq (sSet 4 (eLc [6] (iSeq (eVarI 2)) (gN 6) ct_claw_fault_1 ce_claw_fault_1)) (sSeq (sIf (bOf (eBin dNe (eVarI 4) (eLst aNil))) (sRet (eTup (aCons (eC (.str "loose")) (aCons (eBin dIx (eVarI 4) (eC (.int 0))) aNil)))) sNil) (sSeq (sAsg (gT (gCons0 (gN 6) (gCons0 (gN 7) (gCons0 (gN 8) gNil0)))) (eVar 2)) (sSeq (sSet 5 (eLc [9, 10] (iSeq (eTup (aCons (eTup (aCons (eVar 6) (aCons (eVar 7) aNil))) (aCons (eTup (aCons (eVar 6) (aCons (eVar 8) aNil))) (aCons (eTup (aCons (eVar 7) (aCons (eVar 8) aNil))) aNil))))) (gT (gCons0 (gN 9) (gCons0 (gN 10) gNil0))) ct_claw_fault_2 ce_claw_fault_2)) (sRet (eIf (bOf (eBin dNe (eVarI 5) (eLst aNil))) (eTupS (aCons (eC (.str "tied")) (aStar (eBin dIx (eVarI 5) (eC (.int 0))) aNil))) (eC .non))))))))
theorem sc_claw_fault : FnScope ["web", "c", "some", "near", "loose", "tied", "a", "b", "d", "x", "y"] ["web", "c", "some"] (defScope st_claw_fault) := ⟨rfl, rfl, rfl, by decide +kernel, rfl, by decide +kernel, by decide +kernel⟩
def m_claw_fault : List D → M D := fnM 11 [false, false, false] fb_claw_fault
theorem un_claw_fault (x0 x1 x2 : D) : m_claw_fault [x0, x1, x2] = fb_claw_fault [some (.s x0), some (.s x1), some (.s x2), none, none, none, none, none, none, none, none] >>= endM := by unfold m_claw_fault fnM startE; simp only [List.zipWith_cons_cons, List.zipWith_nil_left, List.zipWith_nil_right, EV.cellOf, List.map_cons, List.map_nil, List.length_cons, List.length_nil, List.cons_append, List.nil_append, Nat.reduceAdd, Nat.reduceSub, List.replicate_succ, List.replicate_zero]
theorem ok_claw_fault {P : Program} {w : World} {K : PySem.W.Frag} {mg : Str → Option Value} {base : Heap} {f : Addr} {fd : FuncData} (Fn : Fun K "claw_fault" "claw_fault" st_claw_fault f fd) (h_all_neighbours : FnV P w K mg base 1 "all_neighbours" [false] m_all_neighbours) :
    FnOk P w K mg base CX0 2 f fd ["web", "c", "some"] (spD [false, false, false] m_claw_fault) := fn_ev Fn sc_claw_fault rfl fun cdv A outer s H E hr => by
  have u1 := room_u hr 1 (by decide)
  have u64 := room_u hr 64 (by decide)
  have u65 := room_u hr 65 (by decide)
  have u66 := room_u hr 66 (by decide)
  have nd := sc_claw_fault.nd
  exact (sss_cons (ss_set 3 nd (ee_call h_all_neighbours hr (ea_s (ee_var 0) ea_nil))) (sss_cons (ss_lc (i := 4) (own := [("a", 6)]) (b := true) nd rfl (by rfl) (ic_seq (ei_var 2)) (fun _ _ _ _ _ => (eg_name 6 nd)) (fun _ _ _ _ _ => (ets_one (eb_cmp (op_notInAll u65) opv_notIn (ei_var 6) ((ee_ix u1 (ei_var 3) (ei_var 1))).i))) (fun _ _ _ _ _ => (ee_var 6)) rfl (sw_true rfl rfl rfl rfl)).2.1 (sss_cons (ss_if (eb_cmp (op_neD u64) opv_ne (ei_var 4) (((en_lst ea_nil)).ee).i) (sss_one (ss_ret (ee_tup (ea_s ee_str (ea_s (ee_ix u1 (ei_var 4) (ee_int).i) ea_nil))))) sss_nil) (sss_cons (ss_asg (is := [6, 7, 8]) (ee_var 2) (eg_tup rfl (egs_cons (eg_name 6 nd) (egs_cons (eg_name 7 nd) (egs_cons (eg_name 8 nd) egs_nil))) (len_cons (len_cons (len_cons (fun _ _ _ => len_nil)))))) (sss_cons (ss_lc (i := 5) (own := [("x", 9), ("y", 10)]) (b := true) nd rfl (by rfl) (ic_seq ((ee_tup (ea_s (ee_tup (ea_s (ee_var 6) (ea_s (ee_var 7) ea_nil))) (ea_s (ee_tup (ea_s (ee_var 6) (ea_s (ee_var 8) ea_nil))) (ea_s (ee_tup (ea_s (ee_var 7) (ea_s (ee_var 8) ea_nil))) ea_nil))))).i) (fun _ _ _ _ _ => (eg_tup rfl (egs_cons (eg_name 9 nd) (egs_cons (eg_name 10 nd) egs_nil)) (len_cons (len_cons (fun _ _ _ => len_nil))))) (fun _ _ _ _ _ => (ets_one (eb_cmp (op_inAll u65) opv_in (ei_var 10) ((ee_ix u1 (ei_var 3) (ei_var 9))).i))) (fun _ _ _ _ _ => (ee_tup (ea_s (ee_var 9) (ea_s (ee_var 10) ea_nil)))) rfl (sw_true rfl rfl rfl rfl)).2.1 (sss_one (ss_ret (ee_if (eb_cmp (op_neD u64) opv_ne (ei_var 5) (((en_lst ea_nil)).ee).i) (ee_tupS (eas_cons ee_str (eas_star (ee_ix u1 (ei_var 5) (ee_int).i) eas_nil))) ee_non))))))))
abbrev st_judge_claw : Stmt := topS 11
def tl_judge_claw_2 : Ev → M Out := (sRet (eTup (aCons (eC (.str "form")) aNil)))
def tl_judge_claw_5 : Ev → M Out := (sRet (eIf (bOf (eBin dEqX (eVarI 2) (eVarI 1))) (eC .non) (eVar 2)))
def tl_judge_claw_4 : Ev → M Out := (sSeq (sSet 2 (eCallU m_claw_paper (aCons (eVar 0) aNil))) (sRet (eIf (bOf (eBin dEqX (eVarI 2) (eVarI 1))) (eC .non) (eVar 2))))
def tl_judge_claw_7 : Ev → M Out := (sRet (eTup (aCons (eC (.str "form")) aNil)))
def tl_judge_claw_8 : Ev → M Out := (sRet (eIf (bOf (eChain dLt dLt (eBin dIx (eVarI 1) (eC (.int 2))) (eBin dIx (eVarI 1) (eC (.int 3))) (eBin dIx (eVarI 1) (eC (.int 4))))) (eCallU m_claw_fault (aCons (eVar 0) (aCons (eBin dIx (eVarI 1) (eC (.int 1))) (aCons (eSl (eVarI 1) (oSome (eC (.int 2))) oNone) aNil)))) (eTup (aCons (eC (.str "form")) aNil))))
def tl_judge_claw_6 : Ev → M Out := (sSeq (sIf (bOr (bOf (eBin dNeS (eBin dIx (eVarI 1) (eC (.int 0))) (eC (.str "claw")))) (bOr (bOf (eBin dNeX (eCall dLen (aCons (eVarI 1) aNil)) (eC (.int 5)))) (bNot (bOf (eCallU m_are_places_of (aCons (eVar 0) (aCons (eSl (eVarI 1) (oSome (eC (.int 1))) oNone) aNil))))))) (sRet (eTup (aCons (eC (.str "form")) aNil))) sNil) (sRet (eIf (bOf (eChain dLt dLt (eBin dIx (eVarI 1) (eC (.int 2))) (eBin dIx (eVarI 1) (eC (.int 3))) (eBin dIx (eVarI 1) (eC (.int 4))))) (eCallU m_claw_fault (aCons (eVar 0) (aCons (eBin dIx (eVarI 1) (eC (.int 1))) (aCons (eSl (eVarI 1) (oSome (eC (.int 2))) oNone) aNil)))) (eTup (aCons (eC (.str "form")) aNil)))))
def tl_judge_claw_3 : Ev → M Out := (sSeq (sIf (bOf (eBin dEqX (eVarI 1) (eTup (aCons (eC (.str "free")) aNil)))) (sSeq (sSet 2 (eCallU m_claw_paper (aCons (eVar 0) aNil))) (sRet (eIf (bOf (eBin dEqX (eVarI 2) (eVarI 1))) (eC .non) (eVar 2)))) sNil) (sSeq (sIf (bOr (bOf (eBin dNeS (eBin dIx (eVarI 1) (eC (.int 0))) (eC (.str "claw")))) (bOr (bOf (eBin dNeX (eCall dLen (aCons (eVarI 1) aNil)) (eC (.int 5)))) (bNot (bOf (eCallU m_are_places_of (aCons (eVar 0) (aCons (eSl (eVarI 1) (oSome (eC (.int 1))) oNone) aNil))))))) (sRet (eTup (aCons (eC (.str "form")) aNil))) sNil) (sRet (eIf (bOf (eChain dLt dLt (eBin dIx (eVarI 1) (eC (.int 2))) (eBin dIx (eVarI 1) (eC (.int 3))) (eBin dIx (eVarI 1) (eC (.int 4))))) (eCallU m_claw_fault (aCons (eVar 0) (aCons (eBin dIx (eVarI 1) (eC (.int 1))) (aCons (eSl (eVarI 1) (oSome (eC (.int 2))) oNone) aNil)))) (eTup (aCons (eC (.str "form")) aNil))))))
def tl_judge_claw_1 : Ev → M Out := (sSeq (sIf (bOr (bNot (bOf (eIsiX "tuple" (eVarI 1)))) (bOr (bOf (eBin dNotIn (eCall dLen (aCons (eVarI 1) aNil)) (eTup (aCons (eC (.int 1)) (aCons (eC (.int 5)) aNil))))) (bNot (bOf (eIsiX "str" (eBin dIx (eVarI 1) (eC (.int 0)))))))) (sRet (eTup (aCons (eC (.str "form")) aNil))) sNil) (sSeq (sIf (bOf (eBin dEqX (eVarI 1) (eTup (aCons (eC (.str "free")) aNil)))) (sSeq (sSet 2 (eCallU m_claw_paper (aCons (eVar 0) aNil))) (sRet (eIf (bOf (eBin dEqX (eVarI 2) (eVarI 1))) (eC .non) (eVar 2)))) sNil) (sSeq (sIf (bOr (bOf (eBin dNeS (eBin dIx (eVarI 1) (eC (.int 0))) (eC (.str "claw")))) (bOr (bOf (eBin dNeX (eCall dLen (aCons (eVarI 1) aNil)) (eC (.int 5)))) (bNot (bOf (eCallU m_are_places_of (aCons (eVar 0) (aCons (eSl (eVarI 1) (oSome (eC (.int 1))) oNone) aNil))))))) (sRet (eTup (aCons (eC (.str "form")) aNil))) sNil) (sRet (eIf (bOf (eChain dLt dLt (eBin dIx (eVarI 1) (eC (.int 2))) (eBin dIx (eVarI 1) (eC (.int 3))) (eBin dIx (eVarI 1) (eC (.int 4))))) (eCallU m_claw_fault (aCons (eVar 0) (aCons (eBin dIx (eVarI 1) (eC (.int 1))) (aCons (eSl (eVarI 1) (oSome (eC (.int 2))) oNone) aNil)))) (eTup (aCons (eC (.str "form")) aNil)))))))
def fb_judge_claw : Ev → M Out := (sSeq (sIf (bOr (bNot (bOf (eIsiX "tuple" (eVarI 1)))) (bOr (bOf (eBin dNotIn (eCall dLen (aCons (eVarI 1) aNil)) (eTup (aCons (eC (.int 1)) (aCons (eC (.int 5)) aNil))))) (bNot (bOf (eIsiX "str" (eBin dIx (eVarI 1) (eC (.int 0)))))))) (sRet (eTup (aCons (eC (.str "form")) aNil))) sNil) (sSeq (sIf (bOf (eBin dEqX (eVarI 1) (eTup (aCons (eC (.str "free")) aNil)))) (sSeq (sSet 2 (eCallU m_claw_paper (aCons (eVar 0) aNil))) (sRet (eIf (bOf (eBin dEqX (eVarI 2) (eVarI 1))) (eC .non) (eVar 2)))) sNil) (sSeq (sIf (bOr (bOf (eBin dNeS (eBin dIx (eVarI 1) (eC (.int 0))) (eC (.str "claw")))) (bOr (bOf (eBin dNeX (eCall dLen (aCons (eVarI 1) aNil)) (eC (.int 5)))) (bNot (bOf (eCallU m_are_places_of (aCons (eVar 0) (aCons (eSl (eVarI 1) (oSome (eC (.int 1))) oNone) aNil))))))) (sRet (eTup (aCons (eC (.str "form")) aNil))) sNil) (sRet (eIf (bOf (eChain dLt dLt (eBin dIx (eVarI 1) (eC (.int 2))) (eBin dIx (eVarI 1) (eC (.int 3))) (eBin dIx (eVarI 1) (eC (.int 4))))) (eCallU m_claw_fault (aCons (eVar 0) (aCons (eBin dIx (eVarI 1) (eC (.int 1))) (aCons (eSl (eVarI 1) (oSome (eC (.int 2))) oNone) aNil)))) (eTup (aCons (eC (.str "form")) aNil)))))))
theorem sc_judge_claw : FnScope ["web", "value", "told"] ["web", "value"] (defScope st_judge_claw) := ⟨rfl, rfl, rfl, by decide +kernel, rfl, by decide +kernel, by decide +kernel⟩
def m_judge_claw : List D → M D := fnM 3 [false, false] fb_judge_claw
theorem un_judge_claw (x0 x1 : D) : m_judge_claw [x0, x1] = fb_judge_claw [some (.s x0), some (.s x1), none] >>= endM := by unfold m_judge_claw fnM startE; simp only [List.zipWith_cons_cons, List.zipWith_nil_left, List.zipWith_nil_right, EV.cellOf, List.map_cons, List.map_nil, List.length_cons, List.length_nil, List.cons_append, List.nil_append, Nat.reduceAdd, Nat.reduceSub, List.replicate_succ, List.replicate_zero]
theorem ok_judge_claw {P : Program} {w : World} {K : PySem.W.Frag} {mg : Str → Option Value} {base : Heap} {f : Addr} {fd : FuncData} (Fn : Fun K "judge_claw" "judge_claw" st_judge_claw f fd) (m_isinstance : mg "isinstance" = none) (m_len : mg "len" = none) (m_str : mg "str" = none) (m_tuple : mg "tuple" = none) (h_are_places_of : FnV P w K mg base 2 "are_places_of" [false, false] m_are_places_of) (h_claw_fault : FnV P w K mg base 2 "claw_fault" [false, false, false] m_claw_fault) (h_claw_paper : FnV P w K mg base 3 "claw_paper" [false] m_claw_paper) :
    FnOk P w K mg base CX0 4 f fd ["web", "value"] (spD [false, false] m_judge_claw) := fn_ev Fn sc_judge_claw rfl fun cdv A outer s H E hr => by
  have u1 := room_u hr 1 (by decide)
  have u64 := room_u hr 64 (by decide)
  have u65 := room_u hr 65 (by decide)
  have u66 := room_u hr 66 (by decide)
  have nd := sc_judge_claw.nd
  have h_are_places_of := h_are_places_of.mono (k := 3) (by decide)
  have h_claw_fault := h_claw_fault.mono (k := 3) (by decide)
  exact (sss_cons (ss_if ((ew_or (eb_not (eb_val ((ee_isiX PyProof.Rows.boot_tuple askedX_tuple m_isinstance m_tuple (ei_var 1))).i)) (ew_or (eb_cmp (op_notInAll u65) opv_notIn ((ee_callB cr_lenAll cv_len m_len PySem.boot_len (ea_b (ei_var 1) ea_nil))).i ((ee_tup (ea_s ee_int (ea_s ee_int ea_nil)))).i) (ew_or1 (eb_not (eb_val ((ee_isiX PyProof.Rows.boot_str askedX_str m_isinstance m_str ((ee_ix u1 (ei_var 1) (ee_int).i)).i)).i)))))).eb (sss_one (ss_ret (ee_tup (ea_s ee_str ea_nil)))) sss_nil) (sss_cons (ss_if (eb_cmp (op_eqX u64) opv_eqX (ei_var 1) ((ee_tup (ea_s ee_str ea_nil))).i) (sss_cons (ss_set 2 nd (ee_call h_claw_paper hr (ea_s (ee_var 0) ea_nil))) (sss_one (ss_ret (ee_if (eb_cmp (op_eqX u64) opv_eqX (ei_var 2) (ei_var 1)) ee_non (ee_var 2))))) sss_nil) (sss_cons (ss_if ((ew_or (eb_cmp op_ne opv_neS ((ee_ix u1 (ei_var 1) (ee_int).i)).i (ee_str).i) (ew_or (eb_cmp (op_neX u64) opv_neX ((ee_callB cr_lenAll cv_len m_len PySem.boot_len (ea_b (ei_var 1) ea_nil))).i (ee_int).i) (ew_or1 (eb_not (eb_val ((ee_call h_are_places_of hr (ea_s (ee_var 0) (ea_s (ee_sl (ei_var 1) (eo_some (ee_int).i) eo_none) ea_nil)))).i)))))).eb (sss_one (ss_ret (ee_tup (ea_s ee_str ea_nil)))) sss_nil) (sss_one (ss_ret (ee_if (eb_chain op_lt opv_lt op_lt opv_lt ((ee_ix u1 (ei_var 1) (ee_int).i)).i ((ee_ix u1 (ei_var 1) (ee_int).i)).i ((ee_ix u1 (ei_var 1) (ee_int).i)).i) (ee_call h_claw_fault hr (ea_s (ee_var 0) (ea_s (ee_ix u1 (ei_var 1) (ee_int).i) (ea_s (ee_sl (ei_var 1) (eo_some (ee_int).i) eo_none) ea_nil)))) (ee_tup (ea_s ee_str ea_nil))))))))
abbrev st_law : Stmt := topS 23
def ce_law_1 : Ev → M D := (eCallU m__law_pick (aCons (eVar 1) (aCons (eVar 4) aNil)))
def ce_law_2 : Ev → M D := (eTup (aCons (eBin dSub (eC (.int 0)) (eCall dLen (aCons (eBin dIx (eVarI 13) (eVarI 20)) aNil))) (aCons (eVar 20) aNil)))
def bd_law_1 : Ev → M Out := (sSeq (sPar [17, 18] (cS (eCall dReprX (aCons (eVarI 11) aNil)) (cS (eCallU m__law_fault (aCons (eVar 5) (aCons (eVar 13) (aCons (eVar 11) aNil)))) cNil))) (sSeq (sIf (bOr (bOf (eBin dNeS (eCall dReprX (aCons (eCallU m_judge_claw (aCons (eVar 5) (aCons (eVar 11) aNil))) aNil)) (eCall dReprX (aCons (eVarI 18) aNil)))) (bOf (eBin dNeS (eCall dReprX (aCons (eVarI 11) aNil)) (eVarI 17)))) (sRet (eC (.bl false))) sNil) (sIf (bAnd (bOf (eBin dIs (eVarI 18) (eC .non))) (bOf (eBin dNeX (eBin dIx (eVarI 11) (eC (.int 0))) (eBin dIx (eVarI 14) (eC (.int 0)))))) (sRet (eC (.bl false))) sNil)))
def bd_law_2 : Ev → M Out := (sSeq (sSet 4 (eBin dAdd (eC (.int 1)) (eCallU m__law_pick (aCons (eVar 1) (aCons (eC (.int 10)) aNil))))) (sSeq (sSet 5 (eIf (bOf (eBin dEqX (eCallU m__law_pick (aCons (eVar 1) (aCons (eC (.int 2)) aNil))) (eC (.int 0)))) (eCallU m__law_web (aCons (eVar 1) (aCons (eVar 4) aNil))) (eCallU m__law_tree (aCons (eVar 1) (aCons (eVar 4) aNil))))) (sSeq (sPar [12, 13, 14] (cS (eCall dReprX (aCons (eVarI 5) aNil)) (cS (eCallU m__law_near (aCons (eVar 5) aNil)) (cS (eCallU m_claw_paper (aCons (eVar 5) aNil)) cNil)))) (sSeq (sSet 6 (eCallU m__law_claws (aCons (eVar 13) aNil))) (sSeq (sIf (bOf (eBin dNeS (eCall dReprX (aCons (eVarI 14) aNil)) (eCall dReprX (aCons (eIf (bOf (eBin dNeX (eVarI 6) (eLst aNil))) (eBin dAdd (eTup (aCons (eC (.str "claw")) aNil)) (eBin dIx (eVarI 6) (eC (.int 0)))) (eTup (aCons (eC (.str "free")) aNil))) aNil)))) (sRet (eC (.bl false))) sNil) (sSeq (sSet 7 (eCall dSorted (aCons (eLc [19] (iSh (iRng rng1 (aCons (eC (.int 3)) aNil))) (gN 19) bYes ce_law_1) aNil))) (sSeq (sPar [15, 16] (cS (eCallU m__law_pick (aCons (eVar 1) (aCons (eVar 4) aNil))) (cS (eCallU m__law_of (aCons (eVar 1) (aCons (eVar 2) aNil))) cNil))) (sSeq (sSet 8 (eBin dIx (eBin dIx (eCall dSorted (aCons (eLc [20] (iSh (iRng rng1 (aCons (eVarI 4) aNil))) (gN 20) bYes ce_law_2) aNil)) (eC (.int 0))) (eC (.int 1)))) (sSeq (sSet 9 (eCall dSorted (aCons (eSl (eCallU m__law_any_order (aCons (eVar 1) (aCons (eBin dIx (eVarI 13) (eVarI 8)) aNil))) oNone (oSome (eC (.int 3)))) aNil))) (sSeq (sOwn 10 (eLst (aCons (eVar 14) (aCons (eTup (aCons (eC (.str "free")) aNil)) (aCons (eBin dAdd (eTup (aCons (eC (.str "claw")) (aCons (eVar 15) aNil))) (eCall dTuple (aCons (eVarI 7) aNil))) (aCons (eBin dAdd (eTup (aCons (eC (.str "claw")) (aCons (eVar 8) aNil))) (eCall dTuple (aCons (eVarI 9) aNil))) (aCons (eCall dList (aCons (eVarI 14) aNil)) (aCons (eBin dAdd (eVarI 14) (eTup (aCons (eC (.int 0)) aNil))) aNil)))))))) (sSeq (sOwn 10 (eBin dAddL (eVarI 10) (eLst (aCons (eBin dAdd (eTup (aCons (eC (.str "claw")) (aCons (eVar 15) aNil))) (eCall dTuple (aCons (eRevA (eVarI 7)) aNil))) (aCons (eC .non) (aCons (eTup aNil) (aCons (eVar 16) (aCons (eC (.str "free")) (aCons (eBin dAdd (eTup (aCons (eC (.str "claw")) (aCons (eVar 16) aNil))) (eCall dTuple (aCons (eVarI 7) aNil))) aNil))))))))) (sSeq (sOwn 10 (eBin dAddL (eVarI 10) (eLst (aCons (eTup (aCons (eC (.str "claw")) (aCons (eVar 15) (aCons (eBin dIx (eVarI 7) (eC (.int 0))) (aCons (eVar 16) (aCons (eBin dIx (eVarI 7) (eC (.int 2))) aNil)))))) (aCons (eTup (aCons (eVar 16) (aCons (eVar 15) aNil))) (aCons (eTup (aCons (eC (.str "free")) (aCons (eC (.int 0)) aNil))) aNil)))))) (sSeq (sMeth 10 hAppend (aCons (eBin dAdd (eTup (aCons (eC (.str "claw")) aNil)) (eCallU m__law_of (aCons (eVar 1) (aCons (eBin dAdd (eVarI 6) (eLst (aCons (eTup (aCons (eC (.int 0)) (aCons (eC (.int 0)) aNil))) aNil))) aNil)))) aNil)) (sSeq (sFrz 10 (sFor (iSeq (eVar 10)) (gN 11) bd_law_1)) (sIf (bOf (eBin dNeS (eCall dReprX (aCons (eVarI 5) aNil)) (eVarI 12))) (sRet (eC (.bl false))) sNil)))))))))))))))
def tl_law_9 : Ev → M Out := (sRet (eC (.bl false)))
def tl_law_21 : Ev → M Out := (sRet (eC (.bl false)))
def tl_law_23 : Ev → M Out := (sRet (eC (.bl false)))
def tl_law_22 : Ev → M Out := (sIf (bAnd (bOf (eBin dIs (eVarI 18) (eC .non))) (bOf (eBin dNeX (eBin dIx (eVarI 11) (eC (.int 0))) (eBin dIx (eVarI 14) (eC (.int 0)))))) (sRet (eC (.bl false))) sNil)
def tl_law_20 : Ev → M Out := (sSeq (sIf (bOr (bOf (eBin dNeS (eCall dReprX (aCons (eCallU m_judge_claw (aCons (eVar 5) (aCons (eVar 11) aNil))) aNil)) (eCall dReprX (aCons (eVarI 18) aNil)))) (bOf (eBin dNeS (eCall dReprX (aCons (eVarI 11) aNil)) (eVarI 17)))) (sRet (eC (.bl false))) sNil) (sIf (bAnd (bOf (eBin dIs (eVarI 18) (eC .non))) (bOf (eBin dNeX (eBin dIx (eVarI 11) (eC (.int 0))) (eBin dIx (eVarI 14) (eC (.int 0)))))) (sRet (eC (.bl false))) sNil))
def tl_law_19 : Ev → M Out := (sSeq (sPar [17, 18] (cS (eCall dReprX (aCons (eVarI 11) aNil)) (cS (eCallU m__law_fault (aCons (eVar 5) (aCons (eVar 13) (aCons (eVar 11) aNil)))) cNil))) (sSeq (sIf (bOr (bOf (eBin dNeS (eCall dReprX (aCons (eCallU m_judge_claw (aCons (eVar 5) (aCons (eVar 11) aNil))) aNil)) (eCall dReprX (aCons (eVarI 18) aNil)))) (bOf (eBin dNeS (eCall dReprX (aCons (eVarI 11) aNil)) (eVarI 17)))) (sRet (eC (.bl false))) sNil) (sIf (bAnd (bOf (eBin dIs (eVarI 18) (eC .non))) (bOf (eBin dNeX (eBin dIx (eVarI 11) (eC (.int 0))) (eBin dIx (eVarI 14) (eC (.int 0)))))) (sRet (eC (.bl false))) sNil)))
def tl_law_25 : Ev → M Out := (sRet (eC (.bl false)))
def tl_law_24 : Ev → M Out := (sIf (bOf (eBin dNeS (eCall dReprX (aCons (eVarI 5) aNil)) (eVarI 12))) (sRet (eC (.bl false))) sNil)
def tl_law_18 : Ev → M Out := (sSeq (sFrz 10 (sFor (iSeq (eVar 10)) (gN 11) bd_law_1)) (sIf (bOf (eBin dNeS (eCall dReprX (aCons (eVarI 5) aNil)) (eVarI 12))) (sRet (eC (.bl false))) sNil))
def tl_law_17 : Ev → M Out := (sSeq (sMeth 10 hAppend (aCons (eBin dAdd (eTup (aCons (eC (.str "claw")) aNil)) (eCallU m__law_of (aCons (eVar 1) (aCons (eBin dAdd (eVarI 6) (eLst (aCons (eTup (aCons (eC (.int 0)) (aCons (eC (.int 0)) aNil))) aNil))) aNil)))) aNil)) (sSeq (sFrz 10 (sFor (iSeq (eVar 10)) (gN 11) bd_law_1)) (sIf (bOf (eBin dNeS (eCall dReprX (aCons (eVarI 5) aNil)) (eVarI 12))) (sRet (eC (.bl false))) sNil)))
def tl_law_16 : Ev → M Out := (sSeq (sOwn 10 (eBin dAddL (eVarI 10) (eLst (aCons (eTup (aCons (eC (.str "claw")) (aCons (eVar 15) (aCons (eBin dIx (eVarI 7) (eC (.int 0))) (aCons (eVar 16) (aCons (eBin dIx (eVarI 7) (eC (.int 2))) aNil)))))) (aCons (eTup (aCons (eVar 16) (aCons (eVar 15) aNil))) (aCons (eTup (aCons (eC (.str "free")) (aCons (eC (.int 0)) aNil))) aNil)))))) (sSeq (sMeth 10 hAppend (aCons (eBin dAdd (eTup (aCons (eC (.str "claw")) aNil)) (eCallU m__law_of (aCons (eVar 1) (aCons (eBin dAdd (eVarI 6) (eLst (aCons (eTup (aCons (eC (.int 0)) (aCons (eC (.int 0)) aNil))) aNil))) aNil)))) aNil)) (sSeq (sFrz 10 (sFor (iSeq (eVar 10)) (gN 11) bd_law_1)) (sIf (bOf (eBin dNeS (eCall dReprX (aCons (eVarI 5) aNil)) (eVarI 12))) (sRet (eC (.bl false))) sNil))))
def tl_law_15 : Ev → M Out := (sSeq (sOwn 10 (eBin dAddL (eVarI 10) (eLst (aCons (eBin dAdd (eTup (aCons (eC (.str "claw")) (aCons (eVar 15) aNil))) (eCall dTuple (aCons (eRevA (eVarI 7)) aNil))) (aCons (eC .non) (aCons (eTup aNil) (aCons (eVar 16) (aCons (eC (.str "free")) (aCons (eBin dAdd (eTup (aCons (eC (.str "claw")) (aCons (eVar 16) aNil))) (eCall dTuple (aCons (eVarI 7) aNil))) aNil))))))))) (sSeq (sOwn 10 (eBin dAddL (eVarI 10) (eLst (aCons (eTup (aCons (eC (.str "claw")) (aCons (eVar 15) (aCons (eBin dIx (eVarI 7) (eC (.int 0))) (aCons (eVar 16) (aCons (eBin dIx (eVarI 7) (eC (.int 2))) aNil)))))) (aCons (eTup (aCons (eVar 16) (aCons (eVar 15) aNil))) (aCons (eTup (aCons (eC (.str "free")) (aCons (eC (.int 0)) aNil))) aNil)))))) (sSeq (sMeth 10 hAppend (aCons (eBin dAdd (eTup (aCons (eC (.str "claw")) aNil)) (eCallU m__law_of (aCons (eVar 1) (aCons (eBin dAdd (eVarI 6) (eLst (aCons (eTup (aCons (eC (.int 0)) (aCons (eC (.int 0)) aNil))) aNil))) aNil)))) aNil)) (sSeq (sFrz 10 (sFor (iSeq (eVar 10)) (gN 11) bd_law_1)) (sIf (bOf (eBin dNeS (eCall dReprX (aCons (eVarI 5) aNil)) (eVarI 12))) (sRet (eC (.bl false))) sNil)))))
def tl_law_14 : Ev → M Out := (sSeq (sOwn 10 (eLst (aCons (eVar 14) (aCons (eTup (aCons (eC (.str "free")) aNil)) (aCons (eBin dAdd (eTup (aCons (eC (.str "claw")) (aCons (eVar 15) aNil))) (eCall dTuple (aCons (eVarI 7) aNil))) (aCons (eBin dAdd (eTup (aCons (eC (.str "claw")) (aCons (eVar 8) aNil))) (eCall dTuple (aCons (eVarI 9) aNil))) (aCons (eCall dList (aCons (eVarI 14) aNil)) (aCons (eBin dAdd (eVarI 14) (eTup (aCons (eC (.int 0)) aNil))) aNil)))))))) (sSeq (sOwn 10 (eBin dAddL (eVarI 10) (eLst (aCons (eBin dAdd (eTup (aCons (eC (.str "claw")) (aCons (eVar 15) aNil))) (eCall dTuple (aCons (eRevA (eVarI 7)) aNil))) (aCons (eC .non) (aCons (eTup aNil) (aCons (eVar 16) (aCons (eC (.str "free")) (aCons (eBin dAdd (eTup (aCons (eC (.str "claw")) (aCons (eVar 16) aNil))) (eCall dTuple (aCons (eVarI 7) aNil))) aNil))))))))) (sSeq (sOwn 10 (eBin dAddL (eVarI 10) (eLst (aCons (eTup (aCons (eC (.str "claw")) (aCons (eVar 15) (aCons (eBin dIx (eVarI 7) (eC (.int 0))) (aCons (eVar 16) (aCons (eBin dIx (eVarI 7) (eC (.int 2))) aNil)))))) (aCons (eTup (aCons (eVar 16) (aCons (eVar 15) aNil))) (aCons (eTup (aCons (eC (.str "free")) (aCons (eC (.int 0)) aNil))) aNil)))))) (sSeq (sMeth 10 hAppend (aCons (eBin dAdd (eTup (aCons (eC (.str "claw")) aNil)) (eCallU m__law_of (aCons (eVar 1) (aCons (eBin dAdd (eVarI 6) (eLst (aCons (eTup (aCons (eC (.int 0)) (aCons (eC (.int 0)) aNil))) aNil))) aNil)))) aNil)) (sSeq (sFrz 10 (sFor (iSeq (eVar 10)) (gN 11) bd_law_1)) (sIf (bOf (eBin dNeS (eCall dReprX (aCons (eVarI 5) aNil)) (eVarI 12))) (sRet (eC (.bl false))) sNil))))))
def tl_law_13 : Ev → M Out := (sSeq (sSet 9 (eCall dSorted (aCons (eSl (eCallU m__law_any_order (aCons (eVar 1) (aCons (eBin dIx (eVarI 13) (eVarI 8)) aNil))) oNone (oSome (eC (.int 3)))) aNil))) (sSeq (sOwn 10 (eLst (aCons (eVar 14) (aCons (eTup (aCons (eC (.str "free")) aNil)) (aCons (eBin dAdd (eTup (aCons (eC (.str "claw")) (aCons (eVar 15) aNil))) (eCall dTuple (aCons (eVarI 7) aNil))) (aCons (eBin dAdd (eTup (aCons (eC (.str "claw")) (aCons (eVar 8) aNil))) (eCall dTuple (aCons (eVarI 9) aNil))) (aCons (eCall dList (aCons (eVarI 14) aNil)) (aCons (eBin dAdd (eVarI 14) (eTup (aCons (eC (.int 0)) aNil))) aNil)))))))) (sSeq (sOwn 10 (eBin dAddL (eVarI 10) (eLst (aCons (eBin dAdd (eTup (aCons (eC (.str "claw")) (aCons (eVar 15) aNil))) (eCall dTuple (aCons (eRevA (eVarI 7)) aNil))) (aCons (eC .non) (aCons (eTup aNil) (aCons (eVar 16) (aCons (eC (.str "free")) (aCons (eBin dAdd (eTup (aCons (eC (.str "claw")) (aCons (eVar 16) aNil))) (eCall dTuple (aCons (eVarI 7) aNil))) aNil))))))))) (sSeq (sOwn 10 (eBin dAddL (eVarI 10) (eLst (aCons (eTup (aCons (eC (.str "claw")) (aCons (eVar 15) (aCons (eBin dIx (eVarI 7) (eC (.int 0))) (aCons (eVar 16) (aCons (eBin dIx (eVarI 7) (eC (.int 2))) aNil)))))) (aCons (eTup (aCons (eVar 16) (aCons (eVar 15) aNil))) (aCons (eTup (aCons (eC (.str "free")) (aCons (eC (.int 0)) aNil))) aNil)))))) (sSeq (sMeth 10 hAppend (aCons (eBin dAdd (eTup (aCons (eC (.str "claw")) aNil)) (eCallU m__law_of (aCons (eVar 1) (aCons (eBin dAdd (eVarI 6) (eLst (aCons (eTup (aCons (eC (.int 0)) (aCons (eC (.int 0)) aNil))) aNil))) aNil)))) aNil)) (sSeq (sFrz 10 (sFor (iSeq (eVar 10)) (gN 11) bd_law_1)) (sIf (bOf (eBin dNeS (eCall dReprX (aCons (eVarI 5) aNil)) (eVarI 12))) (sRet (eC (.bl false))) sNil)))))))
def tl_law_12 : Ev → M Out := (sSeq (sSet 8 (eBin dIx (eBin dIx (eCall dSorted (aCons (eLc [20] (iSh (iRng rng1 (aCons (eVarI 4) aNil))) (gN 20) bYes ce_law_2) aNil)) (eC (.int 0))) (eC (.int 1)))) (sSeq (sSet 9 (eCall dSorted (aCons (eSl (eCallU m__law_any_order (aCons (eVar 1) (aCons (eBin dIx (eVarI 13) (eVarI 8)) aNil))) oNone (oSome (eC (.int 3)))) aNil))) (sSeq (sOwn 10 (eLst (aCons (eVar 14) (aCons (eTup (aCons (eC (.str "free")) aNil)) (aCons (eBin dAdd (eTup (aCons (eC (.str "claw")) (aCons (eVar 15) aNil))) (eCall dTuple (aCons (eVarI 7) aNil))) (aCons (eBin dAdd (eTup (aCons (eC (.str "claw")) (aCons (eVar 8) aNil))) (eCall dTuple (aCons (eVarI 9) aNil))) (aCons (eCall dList (aCons (eVarI 14) aNil)) (aCons (eBin dAdd (eVarI 14) (eTup (aCons (eC (.int 0)) aNil))) aNil)))))))) (sSeq (sOwn 10 (eBin dAddL (eVarI 10) (eLst (aCons (eBin dAdd (eTup (aCons (eC (.str "claw")) (aCons (eVar 15) aNil))) (eCall dTuple (aCons (eRevA (eVarI 7)) aNil))) (aCons (eC .non) (aCons (eTup aNil) (aCons (eVar 16) (aCons (eC (.str "free")) (aCons (eBin dAdd (eTup (aCons (eC (.str "claw")) (aCons (eVar 16) aNil))) (eCall dTuple (aCons (eVarI 7) aNil))) aNil))))))))) (sSeq (sOwn 10 (eBin dAddL (eVarI 10) (eLst (aCons (eTup (aCons (eC (.str "claw")) (aCons (eVar 15) (aCons (eBin dIx (eVarI 7) (eC (.int 0))) (aCons (eVar 16) (aCons (eBin dIx (eVarI 7) (eC (.int 2))) aNil)))))) (aCons (eTup (aCons (eVar 16) (aCons (eVar 15) aNil))) (aCons (eTup (aCons (eC (.str "free")) (aCons (eC (.int 0)) aNil))) aNil)))))) (sSeq (sMeth 10 hAppend (aCons (eBin dAdd (eTup (aCons (eC (.str "claw")) aNil)) (eCallU m__law_of (aCons (eVar 1) (aCons (eBin dAdd (eVarI 6) (eLst (aCons (eTup (aCons (eC (.int 0)) (aCons (eC (.int 0)) aNil))) aNil))) aNil)))) aNil)) (sSeq (sFrz 10 (sFor (iSeq (eVar 10)) (gN 11) bd_law_1)) (sIf (bOf (eBin dNeS (eCall dReprX (aCons (eVarI 5) aNil)) (eVarI 12))) (sRet (eC (.bl false))) sNil))))))))
def tl_law_11 : Ev → M Out := (sSeq (sPar [15, 16] (cS (eCallU m__law_pick (aCons (eVar 1) (aCons (eVar 4) aNil))) (cS (eCallU m__law_of (aCons (eVar 1) (aCons (eVar 2) aNil))) cNil))) (sSeq (sSet 8 (eBin dIx (eBin dIx (eCall dSorted (aCons (eLc [20] (iSh (iRng rng1 (aCons (eVarI 4) aNil))) (gN 20) bYes ce_law_2) aNil)) (eC (.int 0))) (eC (.int 1)))) (sSeq (sSet 9 (eCall dSorted (aCons (eSl (eCallU m__law_any_order (aCons (eVar 1) (aCons (eBin dIx (eVarI 13) (eVarI 8)) aNil))) oNone (oSome (eC (.int 3)))) aNil))) (sSeq (sOwn 10 (eLst (aCons (eVar 14) (aCons (eTup (aCons (eC (.str "free")) aNil)) (aCons (eBin dAdd (eTup (aCons (eC (.str "claw")) (aCons (eVar 15) aNil))) (eCall dTuple (aCons (eVarI 7) aNil))) (aCons (eBin dAdd (eTup (aCons (eC (.str "claw")) (aCons (eVar 8) aNil))) (eCall dTuple (aCons (eVarI 9) aNil))) (aCons (eCall dList (aCons (eVarI 14) aNil)) (aCons (eBin dAdd (eVarI 14) (eTup (aCons (eC (.int 0)) aNil))) aNil)))))))) (sSeq (sOwn 10 (eBin dAddL (eVarI 10) (eLst (aCons (eBin dAdd (eTup (aCons (eC (.str "claw")) (aCons (eVar 15) aNil))) (eCall dTuple (aCons (eRevA (eVarI 7)) aNil))) (aCons (eC .non) (aCons (eTup aNil) (aCons (eVar 16) (aCons (eC (.str "free")) (aCons (eBin dAdd (eTup (aCons (eC (.str "claw")) (aCons (eVar 16) aNil))) (eCall dTuple (aCons (eVarI 7) aNil))) aNil))))))))) (sSeq (sOwn 10 (eBin dAddL (eVarI 10) (eLst (aCons (eTup (aCons (eC (.str "claw")) (aCons (eVar 15) (aCons (eBin dIx (eVarI 7) (eC (.int 0))) (aCons (eVar 16) (aCons (eBin dIx (eVarI 7) (eC (.int 2))) aNil)))))) (aCons (eTup (aCons (eVar 16) (aCons (eVar 15) aNil))) (aCons (eTup (aCons (eC (.str "free")) (aCons (eC (.int 0)) aNil))) aNil)))))) (sSeq (sMeth 10 hAppend (aCons (eBin dAdd (eTup (aCons (eC (.str "claw")) aNil)) (eCallU m__law_of (aCons (eVar 1) (aCons (eBin dAdd (eVarI 6) (eLst (aCons (eTup (aCons (eC (.int 0)) (aCons (eC (.int 0)) aNil))) aNil))) aNil)))) aNil)) (sSeq (sFrz 10 (sFor (iSeq (eVar 10)) (gN 11) bd_law_1)) (sIf (bOf (eBin dNeS (eCall dReprX (aCons (eVarI 5) aNil)) (eVarI 12))) (sRet (eC (.bl false))) sNil)))))))))
def tl_law_10 : Ev → M Out := (sSeq (sSet 7 (eCall dSorted (aCons (eLc [19] (iSh (iRng rng1 (aCons (eC (.int 3)) aNil))) (gN 19) bYes ce_law_1) aNil))) (sSeq (sPar [15, 16] (cS (eCallU m__law_pick (aCons (eVar 1) (aCons (eVar 4) aNil))) (cS (eCallU m__law_of (aCons (eVar 1) (aCons (eVar 2) aNil))) cNil))) (sSeq (sSet 8 (eBin dIx (eBin dIx (eCall dSorted (aCons (eLc [20] (iSh (iRng rng1 (aCons (eVarI 4) aNil))) (gN 20) bYes ce_law_2) aNil)) (eC (.int 0))) (eC (.int 1)))) (sSeq (sSet 9 (eCall dSorted (aCons (eSl (eCallU m__law_any_order (aCons (eVar 1) (aCons (eBin dIx (eVarI 13) (eVarI 8)) aNil))) oNone (oSome (eC (.int 3)))) aNil))) (sSeq (sOwn 10 (eLst (aCons (eVar 14) (aCons (eTup (aCons (eC (.str "free")) aNil)) (aCons (eBin dAdd (eTup (aCons (eC (.str "claw")) (aCons (eVar 15) aNil))) (eCall dTuple (aCons (eVarI 7) aNil))) (aCons (eBin dAdd (eTup (aCons (eC (.str "claw")) (aCons (eVar 8) aNil))) (eCall dTuple (aCons (eVarI 9) aNil))) (aCons (eCall dList (aCons (eVarI 14) aNil)) (aCons (eBin dAdd (eVarI 14) (eTup (aCons (eC (.int 0)) aNil))) aNil)))))))) (sSeq (sOwn 10 (eBin dAddL (eVarI 10) (eLst (aCons (eBin dAdd (eTup (aCons (eC (.str "claw")) (aCons (eVar 15) aNil))) (eCall dTuple (aCons (eRevA (eVarI 7)) aNil))) (aCons (eC .non) (aCons (eTup aNil) (aCons (eVar 16) (aCons (eC (.str "free")) (aCons (eBin dAdd (eTup (aCons (eC (.str "claw")) (aCons (eVar 16) aNil))) (eCall dTuple (aCons (eVarI 7) aNil))) aNil))))))))) (sSeq (sOwn 10 (eBin dAddL (eVarI 10) (eLst (aCons (eTup (aCons (eC (.str "claw")) (aCons (eVar 15) (aCons (eBin dIx (eVarI 7) (eC (.int 0))) (aCons (eVar 16) (aCons (eBin dIx (eVarI 7) (eC (.int 2))) aNil)))))) (aCons (eTup (aCons (eVar 16) (aCons (eVar 15) aNil))) (aCons (eTup (aCons (eC (.str "free")) (aCons (eC (.int 0)) aNil))) aNil)))))) (sSeq (sMeth 10 hAppend (aCons (eBin dAdd (eTup (aCons (eC (.str "claw")) aNil)) (eCallU m__law_of (aCons (eVar 1) (aCons (eBin dAdd (eVarI 6) (eLst (aCons (eTup (aCons (eC (.int 0)) (aCons (eC (.int 0)) aNil))) aNil))) aNil)))) aNil)) (sSeq (sFrz 10 (sFor (iSeq (eVar 10)) (gN 11) bd_law_1)) (sIf (bOf (eBin dNeS (eCall dReprX (aCons (eVarI 5) aNil)) (eVarI 12))) (sRet (eC (.bl false))) sNil))))))))))
def tl_law_8 : Ev → M Out := (sSeq (sIf (bOf (eBin dNeS (eCall dReprX (aCons (eVarI 14) aNil)) (eCall dReprX (aCons (eIf (bOf (eBin dNeX (eVarI 6) (eLst aNil))) (eBin dAdd (eTup (aCons (eC (.str "claw")) aNil)) (eBin dIx (eVarI 6) (eC (.int 0)))) (eTup (aCons (eC (.str "free")) aNil))) aNil)))) (sRet (eC (.bl false))) sNil) (sSeq (sSet 7 (eCall dSorted (aCons (eLc [19] (iSh (iRng rng1 (aCons (eC (.int 3)) aNil))) (gN 19) bYes ce_law_1) aNil))) (sSeq (sPar [15, 16] (cS (eCallU m__law_pick (aCons (eVar 1) (aCons (eVar 4) aNil))) (cS (eCallU m__law_of (aCons (eVar 1) (aCons (eVar 2) aNil))) cNil))) (sSeq (sSet 8 (eBin dIx (eBin dIx (eCall dSorted (aCons (eLc [20] (iSh (iRng rng1 (aCons (eVarI 4) aNil))) (gN 20) bYes ce_law_2) aNil)) (eC (.int 0))) (eC (.int 1)))) (sSeq (sSet 9 (eCall dSorted (aCons (eSl (eCallU m__law_any_order (aCons (eVar 1) (aCons (eBin dIx (eVarI 13) (eVarI 8)) aNil))) oNone (oSome (eC (.int 3)))) aNil))) (sSeq (sOwn 10 (eLst (aCons (eVar 14) (aCons (eTup (aCons (eC (.str "free")) aNil)) (aCons (eBin dAdd (eTup (aCons (eC (.str "claw")) (aCons (eVar 15) aNil))) (eCall dTuple (aCons (eVarI 7) aNil))) (aCons (eBin dAdd (eTup (aCons (eC (.str "claw")) (aCons (eVar 8) aNil))) (eCall dTuple (aCons (eVarI 9) aNil))) (aCons (eCall dList (aCons (eVarI 14) aNil)) (aCons (eBin dAdd (eVarI 14) (eTup (aCons (eC (.int 0)) aNil))) aNil)))))))) (sSeq (sOwn 10 (eBin dAddL (eVarI 10) (eLst (aCons (eBin dAdd (eTup (aCons (eC (.str "claw")) (aCons (eVar 15) aNil))) (eCall dTuple (aCons (eRevA (eVarI 7)) aNil))) (aCons (eC .non) (aCons (eTup aNil) (aCons (eVar 16) (aCons (eC (.str "free")) (aCons (eBin dAdd (eTup (aCons (eC (.str "claw")) (aCons (eVar 16) aNil))) (eCall dTuple (aCons (eVarI 7) aNil))) aNil))))))))) (sSeq (sOwn 10 (eBin dAddL (eVarI 10) (eLst (aCons (eTup (aCons (eC (.str "claw")) (aCons (eVar 15) (aCons (eBin dIx (eVarI 7) (eC (.int 0))) (aCons (eVar 16) (aCons (eBin dIx (eVarI 7) (eC (.int 2))) aNil)))))) (aCons (eTup (aCons (eVar 16) (aCons (eVar 15) aNil))) (aCons (eTup (aCons (eC (.str "free")) (aCons (eC (.int 0)) aNil))) aNil)))))) (sSeq (sMeth 10 hAppend (aCons (eBin dAdd (eTup (aCons (eC (.str "claw")) aNil)) (eCallU m__law_of (aCons (eVar 1) (aCons (eBin dAdd (eVarI 6) (eLst (aCons (eTup (aCons (eC (.int 0)) (aCons (eC (.int 0)) aNil))) aNil))) aNil)))) aNil)) (sSeq (sFrz 10 (sFor (iSeq (eVar 10)) (gN 11) bd_law_1)) (sIf (bOf (eBin dNeS (eCall dReprX (aCons (eVarI 5) aNil)) (eVarI 12))) (sRet (eC (.bl false))) sNil)))))))))))
def tl_law_7 : Ev → M Out := (sSeq (sSet 6 (eCallU m__law_claws (aCons (eVar 13) aNil))) (sSeq (sIf (bOf (eBin dNeS (eCall dReprX (aCons (eVarI 14) aNil)) (eCall dReprX (aCons (eIf (bOf (eBin dNeX (eVarI 6) (eLst aNil))) (eBin dAdd (eTup (aCons (eC (.str "claw")) aNil)) (eBin dIx (eVarI 6) (eC (.int 0)))) (eTup (aCons (eC (.str "free")) aNil))) aNil)))) (sRet (eC (.bl false))) sNil) (sSeq (sSet 7 (eCall dSorted (aCons (eLc [19] (iSh (iRng rng1 (aCons (eC (.int 3)) aNil))) (gN 19) bYes ce_law_1) aNil))) (sSeq (sPar [15, 16] (cS (eCallU m__law_pick (aCons (eVar 1) (aCons (eVar 4) aNil))) (cS (eCallU m__law_of (aCons (eVar 1) (aCons (eVar 2) aNil))) cNil))) (sSeq (sSet 8 (eBin dIx (eBin dIx (eCall dSorted (aCons (eLc [20] (iSh (iRng rng1 (aCons (eVarI 4) aNil))) (gN 20) bYes ce_law_2) aNil)) (eC (.int 0))) (eC (.int 1)))) (sSeq (sSet 9 (eCall dSorted (aCons (eSl (eCallU m__law_any_order (aCons (eVar 1) (aCons (eBin dIx (eVarI 13) (eVarI 8)) aNil))) oNone (oSome (eC (.int 3)))) aNil))) (sSeq (sOwn 10 (eLst (aCons (eVar 14) (aCons (eTup (aCons (eC (.str "free")) aNil)) (aCons (eBin dAdd (eTup (aCons (eC (.str "claw")) (aCons (eVar 15) aNil))) (eCall dTuple (aCons (eVarI 7) aNil))) (aCons (eBin dAdd (eTup (aCons (eC (.str "claw")) (aCons (eVar 8) aNil))) (eCall dTuple (aCons (eVarI 9) aNil))) (aCons (eCall dList (aCons (eVarI 14) aNil)) (aCons (eBin dAdd (eVarI 14) (eTup (aCons (eC (.int 0)) aNil))) aNil)))))))) (sSeq (sOwn 10 (eBin dAddL (eVarI 10) (eLst (aCons (eBin dAdd (eTup (aCons (eC (.str "claw")) (aCons (eVar 15) aNil))) (eCall dTuple (aCons (eRevA (eVarI 7)) aNil))) (aCons (eC .non) (aCons (eTup aNil) (aCons (eVar 16) (aCons (eC (.str "free")) (aCons (eBin dAdd (eTup (aCons (eC (.str "claw")) (aCons (eVar 16) aNil))) (eCall dTuple (aCons (eVarI 7) aNil))) aNil))))))))) (sSeq (sOwn 10 (eBin dAddL (eVarI 10) (eLst (aCons (eTup (aCons (eC (.str "claw")) (aCons (eVar 15) (aCons (eBin dIx (eVarI 7) (eC (.int 0))) (aCons (eVar 16) (aCons (eBin dIx (eVarI 7) (eC (.int 2))) aNil)))))) (aCons (eTup (aCons (eVar 16) (aCons (eVar 15) aNil))) (aCons (eTup (aCons (eC (.str "free")) (aCons (eC (.int 0)) aNil))) aNil)))))) (sSeq (sMeth 10 hAppend (aCons (eBin dAdd (eTup (aCons (eC (.str "claw")) aNil)) (eCallU m__law_of (aCons (eVar 1) (aCons (eBin dAdd (eVarI 6) (eLst (aCons (eTup (aCons (eC (.int 0)) (aCons (eC (.int 0)) aNil))) aNil))) aNil)))) aNil)) (sSeq (sFrz 10 (sFor (iSeq (eVar 10)) (gN 11) bd_law_1)) (sIf (bOf (eBin dNeS (eCall dReprX (aCons (eVarI 5) aNil)) (eVarI 12))) (sRet (eC (.bl false))) sNil))))))))))))
def tl_law_6 : Ev → M Out := (sSeq (sPar [12, 13, 14] (cS (eCall dReprX (aCons (eVarI 5) aNil)) (cS (eCallU m__law_near (aCons (eVar 5) aNil)) (cS (eCallU m_claw_paper (aCons (eVar 5) aNil)) cNil)))) (sSeq (sSet 6 (eCallU m__law_claws (aCons (eVar 13) aNil))) (sSeq (sIf (bOf (eBin dNeS (eCall dReprX (aCons (eVarI 14) aNil)) (eCall dReprX (aCons (eIf (bOf (eBin dNeX (eVarI 6) (eLst aNil))) (eBin dAdd (eTup (aCons (eC (.str "claw")) aNil)) (eBin dIx (eVarI 6) (eC (.int 0)))) (eTup (aCons (eC (.str "free")) aNil))) aNil)))) (sRet (eC (.bl false))) sNil) (sSeq (sSet 7 (eCall dSorted (aCons (eLc [19] (iSh (iRng rng1 (aCons (eC (.int 3)) aNil))) (gN 19) bYes ce_law_1) aNil))) (sSeq (sPar [15, 16] (cS (eCallU m__law_pick (aCons (eVar 1) (aCons (eVar 4) aNil))) (cS (eCallU m__law_of (aCons (eVar 1) (aCons (eVar 2) aNil))) cNil))) (sSeq (sSet 8 (eBin dIx (eBin dIx (eCall dSorted (aCons (eLc [20] (iSh (iRng rng1 (aCons (eVarI 4) aNil))) (gN 20) bYes ce_law_2) aNil)) (eC (.int 0))) (eC (.int 1)))) (sSeq (sSet 9 (eCall dSorted (aCons (eSl (eCallU m__law_any_order (aCons (eVar 1) (aCons (eBin dIx (eVarI 13) (eVarI 8)) aNil))) oNone (oSome (eC (.int 3)))) aNil))) (sSeq (sOwn 10 (eLst (aCons (eVar 14) (aCons (eTup (aCons (eC (.str "free")) aNil)) (aCons (eBin dAdd (eTup (aCons (eC (.str "claw")) (aCons (eVar 15) aNil))) (eCall dTuple (aCons (eVarI 7) aNil))) (aCons (eBin dAdd (eTup (aCons (eC (.str "claw")) (aCons (eVar 8) aNil))) (eCall dTuple (aCons (eVarI 9) aNil))) (aCons (eCall dList (aCons (eVarI 14) aNil)) (aCons (eBin dAdd (eVarI 14) (eTup (aCons (eC (.int 0)) aNil))) aNil)))))))) (sSeq (sOwn 10 (eBin dAddL (eVarI 10) (eLst (aCons (eBin dAdd (eTup (aCons (eC (.str "claw")) (aCons (eVar 15) aNil))) (eCall dTuple (aCons (eRevA (eVarI 7)) aNil))) (aCons (eC .non) (aCons (eTup aNil) (aCons (eVar 16) (aCons (eC (.str "free")) (aCons (eBin dAdd (eTup (aCons (eC (.str "claw")) (aCons (eVar 16) aNil))) (eCall dTuple (aCons (eVarI 7) aNil))) aNil))))))))) (sSeq (sOwn 10 (eBin dAddL (eVarI 10) (eLst (aCons (eTup (aCons (eC (.str "claw")) (aCons (eVar 15) (aCons (eBin dIx (eVarI 7) (eC (.int 0))) (aCons (eVar 16) (aCons (eBin dIx (eVarI 7) (eC (.int 2))) aNil)))))) (aCons (eTup (aCons (eVar 16) (aCons (eVar 15) aNil))) (aCons (eTup (aCons (eC (.str "free")) (aCons (eC (.int 0)) aNil))) aNil)))))) (sSeq (sMeth 10 hAppend (aCons (eBin dAdd (eTup (aCons (eC (.str "claw")) aNil)) (eCallU m__law_of (aCons (eVar 1) (aCons (eBin dAdd (eVarI 6) (eLst (aCons (eTup (aCons (eC (.int 0)) (aCons (eC (.int 0)) aNil))) aNil))) aNil)))) aNil)) (sSeq (sFrz 10 (sFor (iSeq (eVar 10)) (gN 11) bd_law_1)) (sIf (bOf (eBin dNeS (eCall dReprX (aCons (eVarI 5) aNil)) (eVarI 12))) (sRet (eC (.bl false))) sNil)))))))))))))
def tl_law_5 : Ev → M Out := (sSeq (sSet 5 (eIf (bOf (eBin dEqX (eCallU m__law_pick (aCons (eVar 1) (aCons (eC (.int 2)) aNil))) (eC (.int 0)))) (eCallU m__law_web (aCons (eVar 1) (aCons (eVar 4) aNil))) (eCallU m__law_tree (aCons (eVar 1) (aCons (eVar 4) aNil))))) (sSeq (sPar [12, 13, 14] (cS (eCall dReprX (aCons (eVarI 5) aNil)) (cS (eCallU m__law_near (aCons (eVar 5) aNil)) (cS (eCallU m_claw_paper (aCons (eVar 5) aNil)) cNil)))) (sSeq (sSet 6 (eCallU m__law_claws (aCons (eVar 13) aNil))) (sSeq (sIf (bOf (eBin dNeS (eCall dReprX (aCons (eVarI 14) aNil)) (eCall dReprX (aCons (eIf (bOf (eBin dNeX (eVarI 6) (eLst aNil))) (eBin dAdd (eTup (aCons (eC (.str "claw")) aNil)) (eBin dIx (eVarI 6) (eC (.int 0)))) (eTup (aCons (eC (.str "free")) aNil))) aNil)))) (sRet (eC (.bl false))) sNil) (sSeq (sSet 7 (eCall dSorted (aCons (eLc [19] (iSh (iRng rng1 (aCons (eC (.int 3)) aNil))) (gN 19) bYes ce_law_1) aNil))) (sSeq (sPar [15, 16] (cS (eCallU m__law_pick (aCons (eVar 1) (aCons (eVar 4) aNil))) (cS (eCallU m__law_of (aCons (eVar 1) (aCons (eVar 2) aNil))) cNil))) (sSeq (sSet 8 (eBin dIx (eBin dIx (eCall dSorted (aCons (eLc [20] (iSh (iRng rng1 (aCons (eVarI 4) aNil))) (gN 20) bYes ce_law_2) aNil)) (eC (.int 0))) (eC (.int 1)))) (sSeq (sSet 9 (eCall dSorted (aCons (eSl (eCallU m__law_any_order (aCons (eVar 1) (aCons (eBin dIx (eVarI 13) (eVarI 8)) aNil))) oNone (oSome (eC (.int 3)))) aNil))) (sSeq (sOwn 10 (eLst (aCons (eVar 14) (aCons (eTup (aCons (eC (.str "free")) aNil)) (aCons (eBin dAdd (eTup (aCons (eC (.str "claw")) (aCons (eVar 15) aNil))) (eCall dTuple (aCons (eVarI 7) aNil))) (aCons (eBin dAdd (eTup (aCons (eC (.str "claw")) (aCons (eVar 8) aNil))) (eCall dTuple (aCons (eVarI 9) aNil))) (aCons (eCall dList (aCons (eVarI 14) aNil)) (aCons (eBin dAdd (eVarI 14) (eTup (aCons (eC (.int 0)) aNil))) aNil)))))))) (sSeq (sOwn 10 (eBin dAddL (eVarI 10) (eLst (aCons (eBin dAdd (eTup (aCons (eC (.str "claw")) (aCons (eVar 15) aNil))) (eCall dTuple (aCons (eRevA (eVarI 7)) aNil))) (aCons (eC .non) (aCons (eTup aNil) (aCons (eVar 16) (aCons (eC (.str "free")) (aCons (eBin dAdd (eTup (aCons (eC (.str "claw")) (aCons (eVar 16) aNil))) (eCall dTuple (aCons (eVarI 7) aNil))) aNil))))))))) (sSeq (sOwn 10 (eBin dAddL (eVarI 10) (eLst (aCons (eTup (aCons (eC (.str "claw")) (aCons (eVar 15) (aCons (eBin dIx (eVarI 7) (eC (.int 0))) (aCons (eVar 16) (aCons (eBin dIx (eVarI 7) (eC (.int 2))) aNil)))))) (aCons (eTup (aCons (eVar 16) (aCons (eVar 15) aNil))) (aCons (eTup (aCons (eC (.str "free")) (aCons (eC (.int 0)) aNil))) aNil)))))) (sSeq (sMeth 10 hAppend (aCons (eBin dAdd (eTup (aCons (eC (.str "claw")) aNil)) (eCallU m__law_of (aCons (eVar 1) (aCons (eBin dAdd (eVarI 6) (eLst (aCons (eTup (aCons (eC (.int 0)) (aCons (eC (.int 0)) aNil))) aNil))) aNil)))) aNil)) (sSeq (sFrz 10 (sFor (iSeq (eVar 10)) (gN 11) bd_law_1)) (sIf (bOf (eBin dNeS (eCall dReprX (aCons (eVarI 5) aNil)) (eVarI 12))) (sRet (eC (.bl false))) sNil))))))))))))))
def tl_law_4 : Ev → M Out := (sSeq (sSet 4 (eBin dAdd (eC (.int 1)) (eCallU m__law_pick (aCons (eVar 1) (aCons (eC (.int 10)) aNil))))) (sSeq (sSet 5 (eIf (bOf (eBin dEqX (eCallU m__law_pick (aCons (eVar 1) (aCons (eC (.int 2)) aNil))) (eC (.int 0)))) (eCallU m__law_web (aCons (eVar 1) (aCons (eVar 4) aNil))) (eCallU m__law_tree (aCons (eVar 1) (aCons (eVar 4) aNil))))) (sSeq (sPar [12, 13, 14] (cS (eCall dReprX (aCons (eVarI 5) aNil)) (cS (eCallU m__law_near (aCons (eVar 5) aNil)) (cS (eCallU m_claw_paper (aCons (eVar 5) aNil)) cNil)))) (sSeq (sSet 6 (eCallU m__law_claws (aCons (eVar 13) aNil))) (sSeq (sIf (bOf (eBin dNeS (eCall dReprX (aCons (eVarI 14) aNil)) (eCall dReprX (aCons (eIf (bOf (eBin dNeX (eVarI 6) (eLst aNil))) (eBin dAdd (eTup (aCons (eC (.str "claw")) aNil)) (eBin dIx (eVarI 6) (eC (.int 0)))) (eTup (aCons (eC (.str "free")) aNil))) aNil)))) (sRet (eC (.bl false))) sNil) (sSeq (sSet 7 (eCall dSorted (aCons (eLc [19] (iSh (iRng rng1 (aCons (eC (.int 3)) aNil))) (gN 19) bYes ce_law_1) aNil))) (sSeq (sPar [15, 16] (cS (eCallU m__law_pick (aCons (eVar 1) (aCons (eVar 4) aNil))) (cS (eCallU m__law_of (aCons (eVar 1) (aCons (eVar 2) aNil))) cNil))) (sSeq (sSet 8 (eBin dIx (eBin dIx (eCall dSorted (aCons (eLc [20] (iSh (iRng rng1 (aCons (eVarI 4) aNil))) (gN 20) bYes ce_law_2) aNil)) (eC (.int 0))) (eC (.int 1)))) (sSeq (sSet 9 (eCall dSorted (aCons (eSl (eCallU m__law_any_order (aCons (eVar 1) (aCons (eBin dIx (eVarI 13) (eVarI 8)) aNil))) oNone (oSome (eC (.int 3)))) aNil))) (sSeq (sOwn 10 (eLst (aCons (eVar 14) (aCons (eTup (aCons (eC (.str "free")) aNil)) (aCons (eBin dAdd (eTup (aCons (eC (.str "claw")) (aCons (eVar 15) aNil))) (eCall dTuple (aCons (eVarI 7) aNil))) (aCons (eBin dAdd (eTup (aCons (eC (.str "claw")) (aCons (eVar 8) aNil))) (eCall dTuple (aCons (eVarI 9) aNil))) (aCons (eCall dList (aCons (eVarI 14) aNil)) (aCons (eBin dAdd (eVarI 14) (eTup (aCons (eC (.int 0)) aNil))) aNil)))))))) (sSeq (sOwn 10 (eBin dAddL (eVarI 10) (eLst (aCons (eBin dAdd (eTup (aCons (eC (.str "claw")) (aCons (eVar 15) aNil))) (eCall dTuple (aCons (eRevA (eVarI 7)) aNil))) (aCons (eC .non) (aCons (eTup aNil) (aCons (eVar 16) (aCons (eC (.str "free")) (aCons (eBin dAdd (eTup (aCons (eC (.str "claw")) (aCons (eVar 16) aNil))) (eCall dTuple (aCons (eVarI 7) aNil))) aNil))))))))) (sSeq (sOwn 10 (eBin dAddL (eVarI 10) (eLst (aCons (eTup (aCons (eC (.str "claw")) (aCons (eVar 15) (aCons (eBin dIx (eVarI 7) (eC (.int 0))) (aCons (eVar 16) (aCons (eBin dIx (eVarI 7) (eC (.int 2))) aNil)))))) (aCons (eTup (aCons (eVar 16) (aCons (eVar 15) aNil))) (aCons (eTup (aCons (eC (.str "free")) (aCons (eC (.int 0)) aNil))) aNil)))))) (sSeq (sMeth 10 hAppend (aCons (eBin dAdd (eTup (aCons (eC (.str "claw")) aNil)) (eCallU m__law_of (aCons (eVar 1) (aCons (eBin dAdd (eVarI 6) (eLst (aCons (eTup (aCons (eC (.int 0)) (aCons (eC (.int 0)) aNil))) aNil))) aNil)))) aNil)) (sSeq (sFrz 10 (sFor (iSeq (eVar 10)) (gN 11) bd_law_1)) (sIf (bOf (eBin dNeS (eCall dReprX (aCons (eVarI 5) aNil)) (eVarI 12))) (sRet (eC (.bl false))) sNil)))))))))))))))
def tl_law_26 : Ev → M Out := (sRet (eBin dEqX (eCallU m_claw_paper (aCons (eTup (aCons (eC (.int 4)) (aCons (eTup (aCons (eTup (aCons (eC (.int 0)) (aCons (eC (.int 1)) aNil))) (aCons (eTup (aCons (eC (.int 0)) (aCons (eC (.int 2)) aNil))) (aCons (eTup (aCons (eC (.int 0)) (aCons (eC (.int 3)) aNil))) aNil)))) aNil))) aNil)) (eTup (aCons (eC (.str "claw")) (aCons (eC (.int 0)) (aCons (eC (.int 1)) (aCons (eC (.int 2)) (aCons (eC (.int 3)) aNil))))))))
def tl_law_3 : Ev → M Out := (sSeq (sFor (iRng rng1 (aCons (eC (.int 6)) aNil)) (gN 3) bd_law_2) (sRet (eBin dEqX (eCallU m_claw_paper (aCons (eTup (aCons (eC (.int 4)) (aCons (eTup (aCons (eTup (aCons (eC (.int 0)) (aCons (eC (.int 1)) aNil))) (aCons (eTup (aCons (eC (.int 0)) (aCons (eC (.int 2)) aNil))) (aCons (eTup (aCons (eC (.int 0)) (aCons (eC (.int 3)) aNil))) aNil)))) aNil))) aNil)) (eTup (aCons (eC (.str "claw")) (aCons (eC (.int 0)) (aCons (eC (.int 1)) (aCons (eC (.int 2)) (aCons (eC (.int 3)) aNil)))))))))
def tl_law_2 : Ev → M Out := (sSeq (sSet 2 (eLst (aCons (eC .non) (aCons (eC (.bl true)) (aCons (eC (.int 0)) (aCons (eC (.int 1)) (aCons (eC (.int 99)) (aCons (eC (.int (-1))) (aCons (eC (.str "free")) (aCons (eTup aNil) (aCons (eTup (aCons (eC (.int 0)) aNil)) (aCons (eLst (aCons (eC (.int 0)) aNil)) (aCons (eC (.dct false [])) aNil))))))))))))) (sSeq (sFor (iRng rng1 (aCons (eC (.int 6)) aNil)) (gN 3) bd_law_2) (sRet (eBin dEqX (eCallU m_claw_paper (aCons (eTup (aCons (eC (.int 4)) (aCons (eTup (aCons (eTup (aCons (eC (.int 0)) (aCons (eC (.int 1)) aNil))) (aCons (eTup (aCons (eC (.int 0)) (aCons (eC (.int 2)) aNil))) (aCons (eTup (aCons (eC (.int 0)) (aCons (eC (.int 3)) aNil))) aNil)))) aNil))) aNil)) (eTup (aCons (eC (.str "claw")) (aCons (eC (.int 0)) (aCons (eC (.int 1)) (aCons (eC (.int 2)) (aCons (eC (.int 3)) aNil))))))))))
def fb_law : Ev → M Out := (sSeq (sSet 2 (eLst (aCons (eC .non) (aCons (eC (.bl true)) (aCons (eC (.int 0)) (aCons (eC (.int 1)) (aCons (eC (.int 99)) (aCons (eC (.int (-1))) (aCons (eC (.str "free")) (aCons (eTup aNil) (aCons (eTup (aCons (eC (.int 0)) aNil)) (aCons (eLst (aCons (eC (.int 0)) aNil)) (aCons (eC (.dct false [])) aNil))))))))))))) (sSeq (sFor (iRng rng1 (aCons (eC (.int 6)) aNil)) (gN 3) bd_law_2) (sRet (eBin dEqX (eCallU m_claw_paper (aCons (eTup (aCons (eC (.int 4)) (aCons (eTup (aCons (eTup (aCons (eC (.int 0)) (aCons (eC (.int 1)) aNil))) (aCons (eTup (aCons (eC (.int 0)) (aCons (eC (.int 2)) aNil))) (aCons (eTup (aCons (eC (.int 0)) (aCons (eC (.int 3)) aNil))) aNil)))) aNil))) aNil)) (eTup (aCons (eC (.str "claw")) (aCons (eC (.int 0)) (aCons (eC (.int 1)) (aCons (eC (.int 2)) (aCons (eC (.int 3)) aNil))))))))))
theorem sc_law : FnScope ["script", "source", "odd", "lap", "n", "web", "claws", "some", "wide", "late", "values", "value", "kept", "near", "told", "c", "thing", "shown", "fault", "turn", "a"] ["script"] (defScope st_law) := ⟨rfl, rfl, rfl, by decide +kernel, rfl, by decide +kernel, by decide +kernel⟩
theorem ok_law {P : Program} {w : World} {K : PySem.W.Frag} {mg : Str → Option Value} {base : Heap} {f fo : Addr} {fd fdo : FuncData} (Fn : Fun K "law" "law" st_law f fd) (FO : FnOk P w K mg base CX0 1 fo fdo ["script"] (spOpen K)) (ko : PySem.W.keepIn K (.ref fo) = true) (bo : Binds K fdo ["script"] []) (go : mg "_law_open_cells" = some (.ref fo)) (m_len : mg "len" = none) (m_list : mg "list" = none) (m_range : mg "range" = none) (m_repr : mg "repr" = none) (m_sorted : mg "sorted" = none) (m_tuple : mg "tuple" = none) (h__law_any_order : FnV P w K mg base 2 "_law_any_order" [false, false] m__law_any_order) (h__law_claws : FnV P w K mg base 1 "_law_claws" [false] m__law_claws) (h__law_fault : FnVG P w K mg base 2 "_law_fault" [false, false, false] m__law_fault) (h__law_near : FnV P w K mg base 1 "_law_near" [false] m__law_near) (h__law_of : FnV P w K mg base 2 "_law_of" [false, false] m__law_of) (h__law_pick : FnV P w K mg base 1 "_law_pick" [false, false] m__law_pick) (h__law_tree : FnV P w K mg base 4 "_law_tree" [false, false] m__law_tree) (h__law_web : FnV P w K mg base 5 "_law_web" [false, false] m__law_web) (h_claw_paper : FnV P w K mg base 3 "claw_paper" [false] m_claw_paper) (h_judge_claw : FnV P w K mg base 4 "judge_claw" [false, false] m_judge_claw)
    (holds : ∀ S : Src, ∃ S', fb_law (lawE 21) S = some (.rt (.bl true), S')) :
    FnG P w K mg base 6 f fd ["script"] (spLaw K) := law_fn Fn sc_law (by decide) (fun cdv A outer s H E hg hr => by
  have u1 := room_u hr 1 (by decide)
  have u64 := room_u hr 64 (by decide)
  have u65 := room_u hr 65 (by decide)
  have u66 := room_u hr 66 (by decide)
  have nd := sc_law.nd
  have h__law_any_order := h__law_any_order.mono (k := 5) (by decide)
  have h__law_claws := h__law_claws.mono (k := 5) (by decide)
  have h__law_fault := h__law_fault.mono (k := 5) (by decide)
  have h__law_near := h__law_near.mono (k := 5) (by decide)
  have h__law_of := h__law_of.mono (k := 5) (by decide)
  have h__law_pick := h__law_pick.mono (k := 5) (by decide)
  have h__law_tree := h__law_tree.mono (k := 5) (by decide)
  have h_claw_paper := h_claw_paper.mono (k := 5) (by decide)
  have h_judge_claw := h_judge_claw.mono (k := 5) (by decide)
  exact lawb (ps_set (i := 1) nd rfl (by first | exact Or.inl rfl | exact Or.inr rfl) (pe_call (FO.mono (by decide)) hr (by rfl) go ko bo .nil pass0 (pa_cons (pv 0) pa_nil))) (sss_cons (ss_set 2 nd ((en_lst (ea_s ee_non (ea_s ee_bl (ea_s ee_int (ea_s ee_int (ea_s ee_int (ea_s ee_neg (ea_s ee_str (ea_s (ee_tup ea_nil) (ea_s (ee_tup (ea_s ee_int ea_nil)) (ea_s ((en_lst (ea_s ee_int ea_nil))).ee (ea_s (en_dnewK).ee ea_nil))))))))))))).ee) (sss_cons (ss_for (is := [3]) PassesOwn.never rfl (is_rng1 m_range (ea_b (ee_int).i ea_nil)) (eg_name 3 nd) (sss_cons (ss_set 4 nd (ee_bin op_addAll opv_add (ee_int).i ((ee_call h__law_pick hr (ea_s (ee_var 1) (ea_s ee_int ea_nil)))).i)) (sss_cons (ss_set 5 nd (ee_if (eb_cmp (op_eqX u64) opv_eqX ((ee_call h__law_pick hr (ea_s (ee_var 1) (ea_s ee_int ea_nil)))).i (ee_int).i) (ee_call h__law_web hr (ea_s (ee_var 1) (ea_s (ee_var 4) ea_nil))) (ee_call h__law_tree hr (ea_s (ee_var 1) (ea_s (ee_var 4) ea_nil))))) (sss_cons (ss_parN [12, 13, 14] rfl (ep_s (ee_callB (cr_reprX hg u66) cv_reprX m_repr PyProof.Rows.boot_repr (ea_b (ei_var 5) ea_nil)) (ep_s (ee_call h__law_near hr (ea_s (ee_var 5) ea_nil)) (ep_s (ee_call h_claw_paper hr (ea_s (ee_var 5) ea_nil)) ep_nil))) (pgs_cons (pg_name (i := 12) nd rfl (by first | exact Or.inl rfl | exact Or.inr rfl)) (pgs_cons (pg_name (i := 13) nd rfl (by first | exact Or.inl rfl | exact Or.inr rfl)) (pgs_cons (pg_name (i := 14) nd rfl (by first | exact Or.inl rfl | exact Or.inr rfl)) pgs_nil)))) (sss_cons (ss_set 6 nd (ee_call h__law_claws hr (ea_s (ee_var 13) ea_nil))) (sss_cons (ss_if (eb_cmp op_ne opv_neS ((ee_callB (cr_reprX hg u66) cv_reprX m_repr PyProof.Rows.boot_repr (ea_b (ei_var 14) ea_nil))).i ((ee_callB (cr_reprX hg u66) cv_reprX m_repr PyProof.Rows.boot_repr (ea_b ((ee_if (eb_cmp (op_neX u64) opv_neX (ei_var 6) (((en_lst ea_nil)).ee).i) (ee_bin op_addAll opv_add ((ee_tup (ea_s ee_str ea_nil))).i ((ee_ix u1 (ei_var 6) (ee_int).i)).i) (ee_tup (ea_s ee_str ea_nil)))).i ea_nil))).i) (sss_one (ss_ret ee_bl)) sss_nil) (sss_cons (ss_set 7 nd (ee_callB (cr_sortD u64) cv_sorted m_sorted PyProof.Rows.boot_sorted (ea_b (((en_lc (own := [("turn", 19)]) nd rfl (by rfl) ((is_rng1 m_range (ea_b (ee_int).i ea_nil))).c (fun _ _ _ _ _ => (eg_name 19 nd)) (fun _ _ _ _ _ => ets_nil) (fun _ _ _ _ _ => (ee_call h__law_pick hr (ea_s (ee_var 1) (ea_s (ee_var 4) ea_nil)))))).ee).i ea_nil))) (sss_cons (ss_par2 15 16 rfl nd (ep_s (ee_call h__law_pick hr (ea_s (ee_var 1) (ea_s (ee_var 4) ea_nil))) (ep_s (ee_call h__law_of hr (ea_s (ee_var 1) (ea_s (ee_var 2) ea_nil))) ep_nil))) (sss_cons (ss_set 8 nd (ee_ix u1 ((ee_ix u1 ((ee_callB (cr_sortD u64) cv_sorted m_sorted PyProof.Rows.boot_sorted (ea_b (((en_lc (own := [("a", 20)]) nd rfl (by rfl) ((is_rng1 m_range (ea_b (ei_var 4) ea_nil))).c (fun _ _ _ _ _ => (eg_name 20 nd)) (fun _ _ _ _ _ => ets_nil) (fun _ _ _ _ _ => (ee_tup (ea_s (ee_bin op_sub opv_sub (ee_int).i ((ee_callB cr_lenAll cv_len m_len PySem.boot_len (ea_b ((ee_ix u1 (ei_var 13) (ei_var 20))).i ea_nil))).i) (ea_s (ee_var 20) ea_nil)))))).ee).i ea_nil))).i (ee_int).i)).i (ee_int).i)) (sss_cons (ss_set 9 nd (ee_callB (cr_sortD u64) cv_sorted m_sorted PyProof.Rows.boot_sorted (ea_b ((ee_sl ((ee_call h__law_any_order hr (ea_s (ee_var 1) (ea_s (ee_ix u1 (ei_var 13) (ei_var 8)) ea_nil)))).i eo_none (eo_some (ee_int).i))).i ea_nil))) (sss_cons (ss_own 10 nd (en_lst (ea_s (ee_var 14) (ea_s (ee_tup (ea_s ee_str ea_nil)) (ea_s (ee_bin op_addAll opv_add ((ee_tup (ea_s ee_str (ea_s (ee_var 15) ea_nil)))).i ((ee_callTy call_tuple_of cv_tuple m_tuple PyProof.Rows.boot_tuple (ea_b (ei_var 7) ea_nil))).i) (ea_s (ee_bin op_addAll opv_add ((ee_tup (ea_s ee_str (ea_s (ee_var 8) ea_nil)))).i ((ee_callTy call_tuple_of cv_tuple m_tuple PyProof.Rows.boot_tuple (ea_b (ei_var 9) ea_nil))).i) (ea_s ((en_callTy call_list_of cn_list m_list PyProof.Rows.boot_list (ea_b (ei_var 14) ea_nil))).ee (ea_s (ee_bin op_addAll opv_add (ei_var 14) ((ee_tup (ea_s ee_int ea_nil))).i) ea_nil)))))))) (sss_cons (ss_own 10 nd (en_addL (ei_var 10) (((en_lst (ea_s (ee_bin op_addAll opv_add ((ee_tup (ea_s ee_str (ea_s (ee_var 15) ea_nil)))).i ((ee_callTy call_tuple_of cv_tuple m_tuple PyProof.Rows.boot_tuple (ea_b ((ee_revA (ei_var 7))).i ea_nil))).i) (ea_s ee_non (ea_s (ee_tup ea_nil) (ea_s (ee_var 16) (ea_s ee_str (ea_s (ee_bin op_addAll opv_add ((ee_tup (ea_s ee_str (ea_s (ee_var 16) ea_nil)))).i ((ee_callTy call_tuple_of cv_tuple m_tuple PyProof.Rows.boot_tuple (ea_b (ei_var 7) ea_nil))).i) ea_nil)))))))).ee).i)) (sss_cons (ss_own 10 nd (en_addL (ei_var 10) (((en_lst (ea_s (ee_tup (ea_s ee_str (ea_s (ee_var 15) (ea_s (ee_ix u1 (ei_var 7) (ee_int).i) (ea_s (ee_var 16) (ea_s (ee_ix u1 (ei_var 7) (ee_int).i) ea_nil)))))) (ea_s (ee_tup (ea_s (ee_var 16) (ea_s (ee_var 15) ea_nil))) (ea_s (ee_tup (ea_s ee_str (ea_s ee_int ea_nil))) ea_nil))))).ee).i)) (sss_cons (ss_meth 10 mv_append ty_append (ps_expr (pe_bm PySem.F.plainAttrs_list PySem.F.slot_list_append PySem.F.type_list_append mt_append (pv 10) (EA.max (ea_s (ee_bin op_addAll opv_add ((ee_tup (ea_s ee_str ea_nil))).i ((ee_call h__law_of hr (ea_s (ee_var 1) (ea_s (ee_bin op_addAll opv_add (ei_var 6) (((en_lst (ea_s (ee_tup (ea_s ee_int (ea_s ee_int ea_nil))) ea_nil))).ee).i) ea_nil)))).i) ea_nil))))) (sss_cons (ss_frz 10 (ss_for (is := [11]) PassesOwn.never rfl (is_seq (ee_var 10)) (eg_name 11 nd) (sss_cons (ss_par2 17 18 rfl nd (ep_s (ee_callB (cr_reprX hg u66) cv_reprX m_repr PyProof.Rows.boot_repr (ea_b (ei_var 11) ea_nil)) (ep_s (ee_callG h__law_fault hg hr (ea_s (ee_var 5) (ea_s (ee_var 13) (ea_s (ee_var 11) ea_nil)))) ep_nil))) (sss_cons (ss_if ((ew_or (eb_cmp op_ne opv_neS ((ee_callB (cr_reprX hg u66) cv_reprX m_repr PyProof.Rows.boot_repr (ea_b ((ee_call h_judge_claw hr (ea_s (ee_var 5) (ea_s (ee_var 11) ea_nil)))).i ea_nil))).i ((ee_callB (cr_reprX hg u66) cv_reprX m_repr PyProof.Rows.boot_repr (ea_b (ei_var 18) ea_nil))).i) (ew_or1 (eb_cmp op_ne opv_neS ((ee_callB (cr_reprX hg u66) cv_reprX m_repr PyProof.Rows.boot_repr (ea_b (ei_var 11) ea_nil))).i (ei_var 17))))).eb (sss_one (ss_ret ee_bl)) sss_nil) (sss_one (ss_if ((ew_and (eb_cmp op_isAll opv_is (ei_var 18) (ee_non).i) (ew_and1 (eb_cmp (op_neX u64) opv_neX ((ee_ix u1 (ei_var 11) (ee_int).i)).i ((ee_ix u1 (ei_var 14) (ee_int).i)).i)))).eb (sss_one (ss_ret ee_bl)) sss_nil)))))) (sss_one (ss_if (eb_cmp op_ne opv_neS ((ee_callB (cr_reprX hg u66) cv_reprX m_repr PyProof.Rows.boot_repr (ea_b (ei_var 5) ea_nil))).i (ei_var 12)) (sss_one (ss_ret ee_bl)) sss_nil))))))))))))))))) (sss_one (ss_ret (ee_cmp (op_eqX u64) opv_eqX ((ee_call h_claw_paper hr (ea_s (ee_tup (ea_s ee_int (ea_s (ee_tup (ea_s (ee_tup (ea_s ee_int (ea_s ee_int ea_nil))) (ea_s (ee_tup (ea_s ee_int (ea_s ee_int ea_nil))) (ea_s (ee_tup (ea_s ee_int (ea_s ee_int ea_nil))) ea_nil)))) ea_nil))) ea_nil))).i ((ee_tup (ea_s ee_str (ea_s ee_int (ea_s ee_int (ea_s ee_int (ea_s ee_int ea_nil))))))).i)))))) holds
end
end K20

namespace K20
open PySem PySem.Spec PyProof.Rows L2 L2.EV
noncomputable section
/-! ### lots -/
abbrev Lot := List Nat
abbrev Rows := List (List Nat)
def eLot : Lot → D := eT eN
theorem seqLot (l : Lot) : seqOf (eLot l) = some (l.map eN) := rfl
theorem gLot : Good eLot 1 := good_T good_N
theorem dIn_lots (l : Lot) (lots : List Lot) : dIn (eLot l) (eL eLot lots) = some (.bl (decide (l ∈ lots))) := (dIn_L gLot (by omega) l lots).trans (congrArg some (congrArg D.bl (decide_eq_decide.mpr Iff.rfl)))
/-! ### who can answer -/
def eRows : Rows → D := eL (eL eN)
theorem row_at {rows : Rows} {p : Nat} (h : p < rows.length) : rows[p]? = some (rows.getD p []) := by
  rw [List.getD_eq_getElem?_getD, List.getElem?_eq_getElem h]; rfl
theorem bls_map {α : Type} (t : α → Bool) (xs : List α) : bls (xs.map fun x => D.bl (t x)) = some (xs.map t) := by
  induction xs with
  | nil => rfl
  | cons x xs ih => unfold bls at ih ⊢; rw [List.map_cons, List.mapM_cons, ih]; rfl
theorem dAll_map {α : Type} (t : α → Bool) (xs : List α) : dAll [.lst (xs.map fun x => D.bl (t x))] = some (.bl (xs.all t)) := by
  show (bls _).map _ = _
  rw [bls_map]
  show some (D.bl ((xs.map t).all id)) = _
  rw [List.all_map]; rfl
theorem dAny_map {α : Type} (t : α → Bool) (xs : List α) : dAny [.lst (xs.map fun x => D.bl (t x))] = some (.bl (xs.any t)) := by
  show (bls _).map _ = _
  rw [bls_map]
  show some (D.bl ((xs.map t).any id)) = _
  rw [List.any_map]; rfl
abbrev Ties := List (Nat × Nat)
def eWeb (n : Nat) (ties : Ties) : D := .tup [eN n, eT (eP eN eN) ties]
theorem web0 (n : Nat) (ties : Ties) : dIx (eWeb n ties) (.int 0) = some (eN n) := rfl
theorem web1 (n : Nat) (ties : Ties) : dIx (eWeb n ties) (.int 1) = some (eT (eP eN eN) ties) := rfl
end
end K20

namespace K20
open PySem PySem.Spec PyProof.Rows L2 L2.EV
noncomputable section
/-! ### drawing -/
section
variable {ρ : Ev} {S : Src} {i j : Nat}
theorem wp_drain1 {fr : Ev → M Out} {Q : Out → Src → Prop} (h : (isSrc ρ i && decide (i ≠ j) && decide (j < ρ.length)) = true) (k : wp (fr (ρ.set j none)) (drain S) Q) : wp (sDrain1 i j fr ρ) S Q := by
  obtain ⟨a, S', e, q⟩ := k
  refine ⟨a, S', ?_, q⟩
  show (if (isSrc ρ i && decide (i ≠ j) && decide (j < ρ.length)) = true then _ else _) = _
  rw [if_pos h]; exact e
theorem wp_fld {f : Fld} {Q : D → Src → Prop} (h : isSrc ρ i = true) (k : Q (.int (f.get S)) S) : wp (eFld i f ρ) S Q := ⟨_, _, if_pos h, k⟩
theorem wp_sFld {f : Fld} {g : Ev → M D} {Q : Out → Src → Prop} (h : isSrc ρ i = true) (k : wp (g ρ) S fun d S' => ∃ x, d = .int x ∧ Q (.nx ρ) (f.set S' x)) : wp (EV.sFld i f g ρ) S Q := by
  obtain ⟨d, S1, e, x, rfl, q⟩ := k
  exact ⟨_, _, M.bind_app e (if_pos h), q⟩
end
theorem mod_N (x : Int) (m : Nat) (h : 1 ≤ m) : ∃ r, x % (m : Int) = ((r : Nat) : Int) ∧ r < m := by
  have h1 := Int.emod_nonneg x (show (m : Int) ≠ 0 by omega)
  have h2 := Int.emod_lt_of_pos x (show (0 : Int) < m by omega)
  exact ⟨(x % (m : Int)).toNat, by omega, by omega⟩
theorem dMod_pos (x : Int) (m : Int) (h : 0 < m) : dMod (.int x) (.int m) = some (.int (x % m)) := by
  show (if 0 < m then some (D.int (x % m)) else none) = _
  rw [if_pos h]
theorem dFdiv_pos (x : Int) (m : Int) (h : 0 < m) (h2 : m < 1073741824) : dFdiv (.int x) (.int m) = some (.int (x / m)) := by
  show (if CDiv x m then some (D.int (x / m)) else none) = _
  rw [if_pos ⟨h, h2⟩]
theorem dMul_r (x y : Int) (h : -(2 ^ 64) < y ∧ y < 2 ^ 64) : dMul (.int x) (.int y) = some (.int (x * y)) := by
  show (if CMul x y then some (D.int (x * y)) else none) = _
  rw [if_pos (.inr h)]
theorem dInt_i (x : Int) : dInt [.int x] = some (.int x) := rfl
theorem dAdd_i (x y : Int) : dAdd (.int x) (.int y) = some (.int (x + y)) := rfl
theorem pick_spec (m : Nat) (h1 : 1 ≤ m) (h2 : m < 100000) (S : Src) : wp (m__law_pick [.src, eN m]) S fun d _ => ∃ r, d = eN r ∧ r < m := by
  rw [un__law_pick, wp_bind]
  have fin : ∀ (x : Int) (S' : Src), (∃ r, D.int (x % (m : Int)) = eN r ∧ r < m) := fun x S' => by
    obtain ⟨r, e, hr⟩ := mod_N x m h1
    exact ⟨r, by rw [e]; rfl, hr⟩
  have hm0 : (0 : Int) < (m : Int) := by omega
  have hm1 : (m : Int) < 1073741824 := by omega
  unfold fb__law_pick
  refine wp_bind.mpr ?_
  have ec : bOf (eBin dLt (eVarI 1) (eC (.int 2))) [some (.s .src), some (.s (eN m)), none, none, none, none] = pure (decide ((m : Int) < 2)) := rfl
  refine wp_bind.mpr (wp_of_eq ec ?_)
  by_cases c : (m : Int) < 2
  · rw [decide_eq_true c, if_pos rfl]
    exact wp_of_eq (d := Out.rt (.int 0)) rfl (wp_of_eq (d := Out.rt (.int 0)) rfl (wp_of_eq (d := D.int 0) rfl ⟨0, rfl, by omega⟩))
  · rw [decide_eq_false c, if_neg Bool.false_ne_true]
    refine wp_of_eq (d := Out.nx [some (.s .src), some (.s (eN m)), none, none, none, none]) rfl ?_
    refine wp_drain1 (by rfl) ?_
    generalize drain S = S1
    show wp (sSeq (sSet 3 (eFld 0 .left)) _ [some (.s .src), some (.s (eN m)), none, none, none, none]) S1 _
    refine wp_bind.mpr (wp_bind.mpr (wp_fld (by rfl) (wp_pure.mpr ?_)))
    refine wp_bind.mpr ?_
    have ec2 : bOf (eBin dGt (eVarI 3) (eC (.int 1))) [some (.s .src), some (.s (eN m)), none, some (.s (.int S1.left)), none, none] = pure (decide ((1 : Int) < S1.left)) := rfl
    refine wp_bind.mpr (wp_of_eq ec2 ?_)
    by_cases c2 : (1 : Int) < S1.left
    · rw [decide_eq_true c2, if_pos rfl]
      refine wp_bind.mpr (wp_sFld (by rfl) ?_)
      refine wp_of_eq (d := .int (S1.left / (m : Int))) ?_ ⟨_, rfl, ?_⟩
      · refine bind_of (a := .int S1.left) rfl (bind_of (a := eN m) rfl ?_)
        rw [show dFdiv (.int S1.left) (eN m) = _ from dFdiv_pos _ _ hm0 hm1]
        rfl
      · refine wp_of_eq (d := .rt (.int (S1.left % (m : Int)))) ?_ (wp_pure.mpr (wp_pure.mpr (fin _ S1)))
        refine bind_of (a := .int (S1.left % (m : Int))) (bind_of (a := .int S1.left) rfl (bind_of (a := eN m) rfl ?_)) rfl
        rw [show dMod (.int S1.left) (eN m) = _ from dMod_pos _ _ hm0]
        rfl
    · rw [decide_eq_false c2, if_neg Bool.false_ne_true]
      refine wp_pure.mpr ?_
      refine wp_bind.mpr (wp_sFld (by rfl) (wp_bind.mpr (wp_fld (by rfl) (wp_of_eq (d := .int (S1.turn + 1)) rfl ⟨_, rfl, ?_⟩))))
      refine wp_bind.mpr (wp_bind.mpr (wp_fld (by rfl) (wp_pure.mpr ?_)))
      generalize hS2 : Fld.set S1 (S1.turn + 1) Fld.turn = S2
      have e1 : eBin dMul (eVarI 4) (eC (.int 104729)) [some (.s .src), some (.s (eN m)), none, some (.s (.int S1.left)), some (.s (.int (Fld.get S2 .turn))), none] = pure (.int (Fld.get S2 .turn * 104729)) := by
        refine bind_of (a := .int (Fld.get S2 .turn)) rfl (bind_of (a := .int 104729) rfl ?_)
        rw [dMul_r _ _ (by decide)]; rfl
      refine wp_bind.mpr (wp_bind.mpr (wp_bind.mpr (wp_bind.mpr (wp_bind.mpr (wp_bind.mpr (wp_fld (by rfl) ?_))))))
      refine wp_of_eq (d := .int (Fld.get S2 .mixed + Fld.get S2 .turn * 104729)) (bind_of e1 rfl) ?_
      refine wp_of_eq (d := [.int (Fld.get S2 .mixed + Fld.get S2 .turn * 104729)]) rfl (wp_of_eq (d := .int (Fld.get S2 .mixed + Fld.get S2 .turn * 104729)) rfl ?_)
      refine wp_of_eq (d := .int ((Fld.get S2 .mixed + Fld.get S2 .turn * 104729) % 998244353)) (bind_of (a := .int 998244353) rfl (by rw [dMod_pos _ _ (by decide)]; rfl)) ?_
      refine wp_of_eq (d := Out.nx [some (.s .src), some (.s (eN m)), none, some (.s (.int S1.left)), some (.s (.int (Fld.get S2 .turn))), some (.s (.int ((Fld.get S2 .mixed + Fld.get S2 .turn * 104729) % 998244353)))]) rfl ?_
      have hx : ∀ x : Int, -(2 ^ 64) < x % 998244353 ∧ x % 998244353 < 2 ^ 64 := fun x => by
        have h1 := Int.emod_nonneg x (show (998244353 : Int) ≠ 0 by omega)
        have h2 := Int.emod_lt_of_pos x (show (0 : Int) < 998244353 by omega)
        omega
      generalize hy : (Fld.get S2 .mixed + Fld.get S2 .turn * 104729) % 998244353 = y
      have hyb : -(2 ^ 64) < y ∧ y < 2 ^ 64 := by rw [← hy]; exact hx _
      generalize Fld.get S2 .turn = lap
      have e2 : eBin dMod (eCall dInt (aCons (eBin dAdd (eBin dMul (eVarI 5) (eVarI 5)) (eBin dMul (eVarI 4) (eC (.int 17)))) aNil)) (eC (.int 2147483647)) [some (.s .src), some (.s (eN m)), none, some (.s (.int S1.left)), some (.s (.int lap)), some (.s (.int y))] = pure (.int ((y * y + lap * 17) % 2147483647)) := by
        refine bind_of (a := .int (y * y + lap * 17)) (bind_of (a := [.int (y * y + lap * 17)]) (bind_of (a := .int (y * y + lap * 17)) (bind_of (a := .int (y * y)) (bind_of (a := .int y) rfl (bind_of (a := .int y) rfl ?_)) (bind_of (a := .int (lap * 17)) (bind_of (a := .int lap) rfl (bind_of (a := .int 17) rfl ?_)) rfl)) rfl) rfl) (bind_of (a := .int 2147483647) rfl ?_)
        · rw [dMul_r _ _ hyb]; rfl
        · rw [dMul_r _ _ (by decide)]; rfl
        · rw [dMod_pos _ _ (by decide)]; rfl
      refine wp_bind.mpr (wp_of_eq (bind_of e2 rfl) ?_)
      generalize (y * y + lap * 17) % 2147483647 = z
      refine wp_of_eq (d := Out.rt (.int (z / 16 % (m : Int)))) (bind_of (a := .int (z / 16 % (m : Int))) (bind_of (a := .int (z / 16)) (bind_of (a := [.int (z / 16)]) (bind_of (a := .int (z / 16)) (bind_of (a := .int z) rfl (bind_of (a := .int 16) rfl ?_)) rfl) rfl) (bind_of (a := eN m) rfl ?_)) rfl) (wp_pure.mpr (fin _ S2))
      · rw [dFdiv_pos _ _ (by decide) (by decide)]; rfl
      · rw [show dMod (.int (z / 16)) (eN m) = _ from dMod_pos _ _ hm0]; rfl
end
end K20

namespace K20
open PySem PySem.Spec PyProof.Rows L2 L2.EV
noncomputable section
def srt (xs : Lot) : Lot := xs.mergeSort fun a b => decide (a ≤ b)
theorem mem_srt (xs : Lot) (x : Nat) : x ∈ srt xs ↔ x ∈ xs := List.mem_mergeSort
theorem srt_le (xs : Lot) : (srt xs).Pairwise (· ≤ ·) := by
  have h1 : (srt xs).Pairwise fun a b => decide (a ≤ b) = true := List.pairwise_mergeSort (fun a b c h1 h2 => by simp at *; omega) (fun a b => by simp; omega) xs
  exact h1.imp fun h => of_decide_eq_true h
theorem srt_lt {xs : Lot} (h : xs.Nodup) : (srt xs).Pairwise (· < ·) := by
  have h2 : (srt xs).Nodup := (List.mergeSort_perm xs _).nodup_iff.mpr h
  refine ((srt_le xs).and h2).imp fun {a b} ⟨p, q⟩ => ?_
  omega
theorem lt_ext : ∀ {xs ys : List Nat}, xs.Pairwise (· < ·) → ys.Pairwise (· < ·) → (∀ x, x ∈ xs ↔ x ∈ ys) → xs = ys
  | [], [], _, _, _ => rfl
  | [], y :: ys, _, _, h => absurd ((h y).mpr List.mem_cons_self) List.not_mem_nil
  | x :: xs, [], _, _, h => absurd ((h x).mp List.mem_cons_self) List.not_mem_nil
  | x :: xs, y :: ys, hx, hy, h => by
    rw [List.pairwise_cons] at hx hy
    have e : x = y := by
      rcases List.mem_cons.mp ((h x).mp List.mem_cons_self) with e | e
      · exact e
      · rcases List.mem_cons.mp ((h y).mpr List.mem_cons_self) with e' | e'
        · exact e'.symm
        · have := hx.1 y e'
          have := hy.1 x e
          omega
    subst e
    refine congrArg (x :: ·) (lt_ext hx.2 hy.2 fun z => ?_)
    constructor
    · intro hz
      rcases List.mem_cons.mp ((h z).mp (List.mem_cons_of_mem _ hz)) with e | e
      · subst e; exact absurd (hx.1 z hz) (Nat.lt_irrefl _)
      · exact e
    · intro hz
      rcases List.mem_cons.mp ((h z).mpr (List.mem_cons_of_mem _ hz)) with e | e
      · subst e; exact absurd (hy.1 z hz) (Nat.lt_irrefl _)
      · exact e
theorem m__law_of_spec {α : Type} (e : α → D) (tup : Bool) (xs : List α) (h1 : 1 ≤ xs.length) (h2 : xs.length < 100000) (S : Src) : wp (m__law_of [.src, if tup = true then eT e xs else eL e xs]) S fun d _ => ∃ x ∈ xs, d = e x := by
  rw [un__law_of, wp_bind]
  unfold fb__law_of
  have el : ∀ d : D, d = (if tup = true then eT e xs else eL e xs) → dLen [d] = some (eN xs.length) := fun d hd => by
    subst hd
    cases tup with
    | true => exact dLen_T
    | false => exact dLen_L
  have ex : ∀ (d : D) (r : Nat) (x : α), d = (if tup = true then eT e xs else eL e xs) → xs[r]? = some x → dIx d (eN r) = some (e x) := fun d r x hd hx => by
    subst hd
    cases tup with
    | true => exact dIx_T r hx
    | false => exact dIx_L r hx
  generalize hd : (if tup = true then eT e xs else eL e xs) = d at *
  refine wp_bind.mpr (wp_bind.mpr (wp_of_eq (d := d) rfl (wp_bind.mpr (wp_bind.mpr (wp_of_eq (d := [.src, eN xs.length]) (bind_of (a := .src) rfl (bind_of (a := [eN xs.length]) (bind_of (a := eN xs.length) (bind_of (a := [d]) rfl (by rw [el d rfl]; rfl)) rfl) rfl)) (wp_mono (pick_spec xs.length h1 h2 S) ?_))))))
  rintro _ S1 ⟨r, rfl, hr⟩
  have hget : xs[r]? = some xs[r] := List.getElem?_eq_getElem hr
  refine wp_of_eq (d := e xs[r]) (by rw [ex d r _ rfl hget]; rfl) (wp_of_eq (d := Out.rt (e xs[r])) rfl (wp_of_eq (d := e xs[r]) rfl ⟨xs[r], List.getElem_mem hr, rfl⟩))

/-! ### all lots, in order -/
def subs : Nat → List Lot
  | 0 => [[]]
  | a + 1 => subs a ++ (subs a).map fun l => l ++ [a]
def cdn : Nat → Lot → Nat
  | k + 1, a :: l => (a + 1) * 8 ^ k + cdn k l
  | _, _ => 0
def cd (l : Lot) : Nat := cdn 7 l
def srtL (ls : List Lot) : List Lot := ls.mergeSort (PySem.W.dataLe false ptN)
theorem cd_le : ∀ a ∈ subs 7, ∀ b ∈ subs 7, PySem.W.dataLe false ptN a b = decide (cd a ≤ cd b) := by decide +kernel
theorem cd_nd : ((subs 7).map cd).Nodup := by decide +kernel
theorem subs_size : (subs 7).length = 128 := by decide +kernel
theorem subs_pre (n : Nat) : ∀ k, (subs n).Sublist (subs (n + k))
  | 0 => List.Sublist.refl _
  | k + 1 => (subs_pre n k).trans (List.sublist_append_left _ _)
theorem subs_sub {n : Nat} (h : n ≤ 7) : (subs n).Sublist (subs 7) := by
  have := subs_pre n (7 - n)
  rwa [show n + (7 - n) = 7 by omega] at this
theorem mem_subs : ∀ (n : Nat) (l : Lot), l ∈ subs n ↔ l.Pairwise (· < ·) ∧ ∀ a ∈ l, a < n
  | 0, l => by
    show l ∈ [[]] ↔ _
    rw [List.mem_singleton]
    constructor
    · rintro rfl; exact ⟨.nil, fun a h => nomatch h⟩
    · rintro ⟨_, h⟩
      cases l with
      | nil => rfl
      | cons a l => exact absurd (h a List.mem_cons_self) (Nat.not_lt_zero _)
  | n + 1, l => by
    show l ∈ subs n ++ (subs n).map (fun l => l ++ [n]) ↔ _
    rw [List.mem_append, List.mem_map, mem_subs n l]
    constructor
    · rintro (⟨h1, h2⟩ | ⟨l', hl, rfl⟩)
      · exact ⟨h1, fun a ha => Nat.lt_succ_of_lt (h2 a ha)⟩
      · obtain ⟨h1, h2⟩ := (mem_subs n l').mp hl
        refine ⟨?_, fun a ha => ?_⟩
        · rw [List.pairwise_append]
          refine ⟨h1, List.pairwise_singleton _ _, fun x hx y hy => ?_⟩
          rw [List.mem_singleton] at hy
          rw [hy]; exact h2 x hx
        · rcases List.mem_append.mp ha with ha | ha
          · exact Nat.lt_succ_of_lt (h2 a ha)
          · rw [List.mem_singleton] at ha; omega
    · rintro ⟨h1, h2⟩
      rcases List.eq_nil_or_concat l with rfl | ⟨l', x, e⟩
      · exact .inl ⟨.nil, fun a h => nomatch h⟩
      · rw [List.concat_eq_append] at e
        subst e
        rw [List.pairwise_append] at h1
        have hx := h2 x (List.mem_append_right _ List.mem_cons_self)
        by_cases c : x = n
        · subst c
          exact .inr ⟨l', (mem_subs x l').mpr ⟨h1.1, fun a ha => h1.2.2 a ha x List.mem_cons_self⟩, rfl⟩
        · refine .inl ⟨by rw [List.pairwise_append]; exact h1, fun a ha => ?_⟩
          rcases List.mem_append.mp ha with ha | ha
          · have := h1.2.2 a ha x List.mem_cons_self
            omega
          · rw [List.mem_singleton] at ha; omega
theorem srtL_cd {ls : List Lot} (h : ∀ l ∈ ls, l ∈ subs 7) : (srtL ls).map cd = srt (ls.map cd) := List.map_mergeSort (s := fun a b : Nat => decide (a ≤ b)) fun a ha b hb => cd_le a (h a ha) b (h b hb)
theorem cd_inj {a b : Lot} (ha : a ∈ subs 7) (hb : b ∈ subs 7) (e : cd a = cd b) : a = b := by
  obtain ⟨i, hi⟩ := List.getElem?_of_mem ha
  obtain ⟨j, hj⟩ := List.getElem?_of_mem hb
  obtain ⟨g1, g2⟩ := List.getElem?_eq_some_iff.mp hi
  obtain ⟨g3, g4⟩ := List.getElem?_eq_some_iff.mp hj
  have nd := List.pairwise_iff_getElem.mp cd_nd
  have gi : ((subs 7).map cd)[i]'(by rw [List.length_map]; exact g1) = cd a := by rw [List.getElem_map, g2]
  have gj : ((subs 7).map cd)[j]'(by rw [List.length_map]; exact g3) = cd b := by rw [List.getElem_map, g4]
  rcases Nat.lt_trichotomy i j with h | h | h
  · exact absurd (gi.trans (e.trans gj.symm)) (nd i j _ _ h)
  · subst h; exact g2.symm.trans g4
  · exact absurd (gj.trans (e.symm.trans gi.symm)) (nd j i _ _ h)
theorem map_cd_inj : ∀ {xs ys : List Lot}, (∀ l ∈ xs, l ∈ subs 7) → (∀ l ∈ ys, l ∈ subs 7) → xs.map cd = ys.map cd → xs = ys
  | [], [], _, _, _ => rfl
  | [], y :: ys, _, _, e => by simp at e
  | x :: xs, [], _, _, e => by simp at e
  | x :: xs, y :: ys, hx, hy, e => by
    rw [List.map_cons, List.map_cons, List.cons.injEq] at e
    rw [cd_inj (hx x List.mem_cons_self) (hy y List.mem_cons_self) e.1, map_cd_inj (fun l hl => hx l (List.mem_cons_of_mem _ hl)) (fun l hl => hy l (List.mem_cons_of_mem _ hl)) e.2]
theorem srtL_filter {n : Nat} (h : n ≤ 7) (p : Lot → Bool) : srtL ((subs n).filter p) = (srtL (subs n)).filter p := by
  have s7 : ∀ l ∈ subs n, l ∈ subs 7 := fun l hl => (subs_sub h).subset hl
  have nd : ((subs n).map cd).Nodup := List.Nodup.sublist ((subs_sub h).map cd) cd_nd
  have nd2 : (((subs n).filter p).map cd).Nodup := List.Nodup.sublist (List.filter_sublist.map cd) nd
  have f7 : ∀ l ∈ (subs n).filter p, l ∈ subs 7 := fun l hl => s7 l (List.mem_filter.mp hl).1
  refine map_cd_inj (fun l hl => f7 l (List.mem_mergeSort.mp hl)) (fun l hl => s7 l (List.mem_mergeSort.mp (List.mem_filter.mp hl).1)) (lt_ext ?_ ?_ fun x => ?_)
  · rw [srtL_cd f7]; exact srt_lt nd2
  · have := srt_lt nd
    rw [← srtL_cd s7] at this
    exact List.Pairwise.sublist (List.filter_sublist.map cd) this
  · rw [List.mem_map, List.mem_map]
    refine exists_congr fun l => and_congr_left fun _ => ?_
    unfold srtL
    rw [List.mem_mergeSort, List.mem_filter, List.mem_filter, List.mem_mergeSort]
theorem subs_len {n : Nat} (h : n ≤ 7) : (subs n).length ≤ 128 := by
  have := (subs_sub h).length_le
  rwa [subs_size] at this
theorem srtL_len (ls : List Lot) : (srtL ls).length = ls.length := List.length_mergeSort _
theorem mem_srtL (ls : List Lot) (l : Lot) : l ∈ srtL ls ↔ l ∈ ls := List.mem_mergeSort
end
end K20

namespace K20
open PySem PySem.Spec PyProof.Rows L2 L2.EV
noncomputable section
/-! ### neighbours -/
def app (rows : Rows) (a b : Nat) : Rows := rows.set a (rows.getD a [] ++ [b])
def rowsA0 (rows : Rows) (ties : Ties) : Rows := ties.foldl (fun r p => app (app r p.1 p.2) p.2 p.1) rows
def rowsA (n : Nat) (ties : Ties) : Rows := (rowsA0 (List.replicate n []) ties).map srt
theorem app_len (rows : Rows) (a b : Nat) : (app rows a b).length = rows.length := by simp [app]
theorem app_get (rows : Rows) (a b p : Nat) (ha : a < rows.length) : (app rows a b).getD p [] = if a = p then rows.getD p [] ++ [b] else rows.getD p [] := by
  unfold app
  rw [List.getD_eq_getElem?_getD, List.getElem?_set]
  by_cases e : a = p
  · subst e; simp [ha]
  · simp [e]
theorem app_bound {rows : Rows} {a b B : Nat} (h : ∀ p, (rows.getD p []).length ≤ B) (ha : a < rows.length) : ∀ p, ((app rows a b).getD p []).length ≤ B + 1 := by
  intro p
  rw [app_get rows a b p ha]
  have := h p
  split
  · rw [List.length_append, List.length_singleton]; omega
  · omega
theorem nApp_eq (i j : Nat) {ρ : Ev} {rows : Rows} {a b : Nat} (hi : ρ[i]? = some (some (.s (eN a)))) (hj : ρ[j]? = some (some (.s (eN b)))) (hn : noOwn ρ = true) (ha : a < rows.length) (hz : (rows.getD a []).length < 10000) :
    nApp (eVar i) (eVar j) ρ (rows.map (eL eN)) = pure ((app rows a b).map (eL eN)) := by
  unfold nApp
  simp only [sRet, sSeq, sSet, sIf, sDrop, eCall, eCallU, aCons, aNil, eBin, eVar, eVarI, eC, eTup, eLst, eLc, eIf, eAnd, eOr, eNot, bOf, bAnd, bOr, bNot, bYes, asB, iSeq, iRng, iSh, sNil, sFor, sPar, cS, cO, cNil, sAsg, sOwn, sMeth, sFrz, frz, sRetO, ownAt, pure_bind, bind_assoc, M.of_some, andThen, endM, wipeE, List.getElem?_cons_succ, List.getElem?_cons_zero, List.set_cons_succ, List.set_cons_zero, seqOf_L, seqOf_T, dList_L, dList_T, dTuple_L, dTuple_T, dLen_L, dLen_T, Option.bind_some, Option.map_some, hi, hj]
  have e1 : ixN (rows.map (eL eN)).length (a : Int) = some a := by rw [List.length_map]; exact (by unfold ixN; simp; omega)
  have e2 : (rows.map (eL eN))[a]? = some (eL eN (rows.getD a [])) := by rw [List.getElem?_map, row_at ha]; rfl
  have e3 : hAppend (eL eN (rows.getD a [])) [eN b] = some (eL eN (rows.getD a [] ++ [b]), .non) := by
    have : (rows.getD a []).length < sizeLine := by rw [sizeLine_eq]; omega
    show (if ((rows.getD a []).map eN).length < sizeLine then some (D.lst ((rows.getD a []).map eN ++ [eN b]), D.non) else none) = _
    rw [if_pos (by rw [List.length_map]; exact this)]
    unfold eL
    rw [List.map_append]
    rfl
  rw [if_pos hn]
  show M.of ((ixN (rows.map (eL eN)).length (a : Int)).bind _) = _
  rw [e1]
  show M.of (((rows.map (eL eN))[a]?).bind _) = _
  rw [e2]
  show M.of ((hAppend (eL eN (rows.getD a [])) [eN b]).map _) = _
  rw [e3]
  show M.of (some _) = _
  rw [M.of_some]
  congr 1
  unfold app
  rw [List.map_set]
theorem forN_eq (w : D) : ∀ (ties : Ties) (rows : Rows) (B : Nat) (c2 c3 : Option Cell), noOwn [some (.s w), none, c2, c3, none] = true → (∀ p ∈ ties, p.1 < rows.length ∧ p.2 < rows.length) → (∀ p, (rows.getD p []).length ≤ B) → B + 2 * ties.length < 10000 →
    ∃ c2' c3', forN (gT (gCons0 (gN 2) (gCons0 (gN 3) gNil0))) bn_all_neighbours_1 (ties.map (eP eN eN)) [some (.s w), none, c2, c3, none] (rows.map (eL eN)) = pure ([some (.s w), none, c2', c3', none], (rowsA0 rows ties).map (eL eN)) ∧ noOwn [some (.s w), none, c2', c3', none] = true
  | [], rows, B, c2, c3, h, _, _, _ => ⟨c2, c3, rfl, h⟩
  | (a, b) :: ties, rows, B, c2, c3, h, ht, hb, hz => by
    have hab := ht (a, b) List.mem_cons_self
    rw [List.length_cons] at hz
    have b1 := app_bound (b := b) hb hab.1
    have b2 := app_bound (rows := app rows a b) (a := b) (b := a) b1 (by rw [app_len]; exact hab.2)
    obtain ⟨c2', c3', e1, e2⟩ := forN_eq w ties (app (app rows a b) b a) (B + 1 + 1) (some (.s (eN a))) (some (.s (eN b))) rfl (fun p hp => by rw [app_len, app_len]; exact ht p (List.mem_cons_of_mem _ hp)) b2 (by omega)
    refine ⟨c2', c3', ?_, e2⟩
    rw [List.map_cons, forN]
    refine bind_of (a := [some (.s w), none, some (.s (eN a)), some (.s (eN b)), none]) rfl ?_
    refine bind_of (a := (app (app rows a b) b a).map (eL eN)) ?_ e1
    have h1 : (rows.getD a []).length < 10000 := Nat.lt_of_le_of_lt (hb a) (by omega)
    have h2 : ((app rows a b).getD b []).length < 10000 := Nat.lt_of_le_of_lt (b1 b) (by omega)
    exact bind_of (nApp_eq 2 3 (by rfl) (by rfl) (by rfl) hab.1 h1) (nApp_eq 3 2 (by rfl) (by rfl) (by rfl) (by rw [app_len]; exact hab.2) h2)
theorem m_all_neighbours_eq (n : Nat) (ties : Ties) (hn : n < 1000) (ht : ∀ p ∈ ties, p.1 < n ∧ p.2 < n) (hz : ties.length < 1000) : m_all_neighbours [eWeb n ties] = pure (eRows (rowsA n ties)) := by
  rw [un_all_neighbours]
  have e0 : eLcN [2] (iSh (iRng rng1 (aCons (eBin dIx (eVarI 0) (eC (.int 0))) aNil))) (gN 2) bYes (eLst aNil) [some (.s (eWeb n ties)), none, none, none, none] = pure ((List.replicate n []).map (eL eN)) := by
    have ei : iSh (iRng rng1 (aCons (eBin dIx (eVarI 0) (eC (.int 0))) aNil)) [some (.s (eWeb n ties)), none, none, none, none] = pure ((List.range n).map eN) := by
      simp only [sRet, sSeq, sSet, sIf, sDrop, eCall, eCallU, aCons, aNil, eBin, eVar, eVarI, eC, eTup, eLst, eLc, eIf, eAnd, eOr, eNot, bOf, bAnd, bOr, bNot, bYes, asB, iSeq, iRng, iSh, sNil, sFor, sPar, cS, cO, cNil, sAsg, sOwn, sMeth, sFrz, frz, sRetO, ownAt, pure_bind, bind_assoc, M.of_some, andThen, endM, wipeE, List.getElem?_cons_succ, List.getElem?_cons_zero, List.set_cons_succ, List.set_cons_zero, seqOf_L, seqOf_T, dList_L, dList_T, dTuple_L, dTuple_T, dLen_L, dLen_T, Option.bind_some, Option.map_some, web0, rng1_N n (by omega)]
      rw [short_map (by rw [List.length_range, sizeLine_eq]; omega)]
      rfl
    refine bind_of ei ?_
    have := comp_map (xs := List.range n) (g := gN 2) (fe := eLst aNil) (ρ := wipeE [some (.s (eWeb n ties)), none, none, none, none] [2]) eN (fun _ => eL eN []) fun x _ => ⟨_, rfl, rfl⟩
    rw [this]
    congr 1
    rw [List.map_const', List.length_range, List.map_replicate]
  obtain ⟨c2, c3, e1, e2⟩ := forN_eq (eWeb n ties) ties (List.replicate n []) 0 none none rfl (fun p hp => by rw [List.length_replicate]; exact ht p hp) (fun p => by rw [List.getD_eq_getElem?_getD, List.getElem?_replicate]; split <;> simp) (by omega)
  have e3 : eLc [4] (iSeq (eVarI 1)) (gN 4) bYes ce_all_neighbours_1 [some (.s (eWeb n ties)), some (.s (eRows (rowsA0 (List.replicate n []) ties))), c2, c3, none] = pure (eRows (rowsA n ties)) := by
    refine bind_of (a := (rowsA0 (List.replicate n []) ties).map (eL eN)) rfl (bind_of (comp_map (eL eN) (fun r => eL eN (srt r)) fun r _ => ⟨_, rfl, ?_⟩) ?_)
    · simp only [ce_all_neighbours_1, sRet, sSeq, sSet, sIf, sDrop, eCall, eCallU, aCons, aNil, eBin, eVar, eVarI, eC, eTup, eLst, eLc, eIf, eAnd, eOr, eNot, bOf, bAnd, bOr, bNot, bYes, asB, iSeq, iRng, iSh, sNil, sFor, sPar, cS, cO, cNil, sAsg, sOwn, sMeth, sFrz, frz, sRetO, ownAt, pure_bind, bind_assoc, M.of_some, andThen, endM, wipeE, List.getElem?_cons_succ, List.getElem?_cons_zero, List.set_cons_succ, List.set_cons_zero, seqOf_L, seqOf_T, dList_L, dList_T, dTuple_L, dTuple_T, dLen_L, dLen_T, Option.bind_some, Option.map_some, EV.sorted_ints]
      rfl
    · unfold eRows rowsA
      show pure (D.lst _) = pure (eL _ _)
      congr 1
      unfold eL
      rw [List.map_map]
      rfl
  refine bind_of (a := Out.rt (eRows (rowsA n ties))) ?_ rfl
  unfold fb_all_neighbours sNest
  refine bind_of (a := ()) rfl (bind_of e0 (bind_of (a := ties.map (eP eN eN)) ?_ (bind_of e1 ?_)))
  · simp only [sRet, sSeq, sSet, sIf, sDrop, eCall, eCallU, aCons, aNil, eBin, eVar, eVarI, eC, eTup, eLst, eLc, eIf, eAnd, eOr, eNot, bOf, bAnd, bOr, bNot, bYes, asB, iSeq, iRng, iSh, sNil, sFor, sPar, cS, cO, cNil, sAsg, sOwn, sMeth, sFrz, frz, sRetO, ownAt, pure_bind, bind_assoc, M.of_some, andThen, endM, wipeE, List.getElem?_cons_succ, List.getElem?_cons_zero, List.set_cons_succ, List.set_cons_zero, seqOf_L, seqOf_T, dList_L, dList_T, dTuple_L, dTuple_T, dLen_L, dLen_T, Option.bind_some, Option.map_some, web1]
  · show (if noOwn [some (.s (eWeb n ties)), none, c2, c3, none] = true then _ else _) = _
    rw [e2, if_pos rfl]
    exact bind_of e3 rfl
theorem rowsA0_mem : ∀ (ties : Ties) (rows : Rows) (p x : Nat), (∀ q ∈ ties, q.1 < rows.length ∧ q.2 < rows.length) → (x ∈ (rowsA0 rows ties).getD p [] ↔ x ∈ rows.getD p [] ∨ (p, x) ∈ ties ∨ (x, p) ∈ ties)
  | [], rows, p, x, _ => by simp [rowsA0]
  | (a, b) :: ties, rows, p, x, h => by
    have hab := h (a, b) List.mem_cons_self
    show x ∈ (rowsA0 (app (app rows a b) b a) ties).getD p [] ↔ _
    rw [rowsA0_mem ties _ p x (fun q hq => by rw [app_len, app_len]; exact h q (List.mem_cons_of_mem _ hq)), app_get _ _ _ _ (by rw [app_len]; exact hab.2), app_get _ _ _ _ hab.1]
    simp only [List.mem_cons, Prod.mk.injEq]
    by_cases e1 : b = p <;> by_cases e2 : a = p <;> grind
theorem rowsA0_len (ties : Ties) : ∀ rows : Rows, (rowsA0 rows ties).length = rows.length := by
  induction ties with
  | nil => intro rows; rfl
  | cons q ties ih => intro rows; show (rowsA0 (app (app rows q.1 q.2) q.2 q.1) ties).length = _; rw [ih, app_len, app_len]
theorem rowsA_len (n : Nat) (ties : Ties) : (rowsA n ties).length = n := by unfold rowsA; rw [List.length_map, rowsA0_len, List.length_replicate]
end
end K20

namespace K20
open PySem PySem.Spec PyProof.Rows L2 L2.EV
noncomputable section
def idx {α : Type} (xs : List α) : List (Nat × α) := xs.mapIdx fun i x => (i, x)
theorem mem_idx {α : Type} {xs : List α} {i : Nat} {x : α} : (i, x) ∈ idx xs ↔ xs[i]? = some x := by
  unfold idx
  rw [List.mem_mapIdx]
  constructor
  · rintro ⟨j, hj, e⟩
    rw [Prod.mk.injEq] at e
    obtain ⟨rfl, rfl⟩ := e
    exact List.getElem?_eq_getElem hj
  · intro h
    obtain ⟨g1, g2⟩ := List.getElem?_eq_some_iff.mp h
    exact ⟨i, g1, by rw [g2]⟩
theorem idx_len {α : Type} (xs : List α) : (idx xs).length = xs.length := List.length_mapIdx
theorem enum_idx {α : Type} (e : α → D) (xs : List α) : enumD (xs.map e) = (idx xs).map fun p => .tup [eN p.1, e p.2] := by
  unfold enumD idx
  refine List.ext_getElem? fun i => ?_
  rw [List.getElem?_mapIdx, List.getElem?_map, List.getElem?_map, List.getElem?_mapIdx]
  cases xs[i]? <;> rfl
theorem dSub_N {a b : Nat} (h : b ≤ a) : dSub (eN a) (eN b) = some (eN (a - b)) := by
  show some (D.int ((a : Int) - (b : Int))) = some (D.int ((a - b : Nat) : Int))
  congr 2
  omega
theorem dLt_N (a b : Nat) : dLt (eN a) (eN b) = some (.bl (decide (a < b))) := by
  show some (D.bl (decide ((a : Int) < (b : Int)))) = _
  exact congrArg (fun b => some (D.bl b)) (decide_eq_decide.mpr (by omega))
theorem dGt_N (a b : Nat) : dGt (eN a) (eN b) = some (.bl (decide (b < a))) := by
  show some (D.bl (decide ((a : Int) > (b : Int)))) = _
  exact congrArg (fun b => some (D.bl b)) (decide_eq_decide.mpr (by omega))
theorem wp_pick {k : Nat} (h1 : 1 ≤ k) (h2 : k < 100000) {f : Ev → M (List D)} {ρ : Ev} (hf : f ρ = pure [.src, eN k]) (S : Src) {Q : D → Src → Prop} (q : ∀ r S', r < k → Q (eN r) S') : wp (eCallU m__law_pick f ρ) S Q := by
  refine wp_bind.mpr (wp_of_eq hf (wp_mono (pick_spec k h1 h2 S) ?_))
  rintro _ S' ⟨r, rfl, hr⟩
  exact q r S' hr

theorem hAppend_L {α : Type} {e : α → D} {xs : List α} {y : α} (h : xs.length < 100000) : hAppend (eL e xs) [e y] = some (eL e (xs ++ [y]), .non) := by
  show (if (xs.map e).length < sizeLine then some (D.lst (xs.map e ++ [e y]), D.non) else none) = _
  rw [if_pos (by rw [List.length_map, sizeLine_eq]; omega)]
  unfold eL
  rw [List.map_append]
  rfl
theorem wp_of_L {α : Type} (e : α → D) (xs : List α) (h1 : 1 ≤ xs.length) (h2 : xs.length < 100000) {f : Ev → M (List D)} {ρ : Ev} (hf : f ρ = pure [.src, eL e xs]) (S : Src) {Q : D → Src → Prop} (q : ∀ x S', x ∈ xs → Q (e x) S') : wp (eCallU m__law_of f ρ) S Q := by
  refine wp_bind.mpr (wp_of_eq hf ?_)
  have := m__law_of_spec e false xs h1 h2 S
  rw [if_neg Bool.false_ne_true] at this
  refine wp_mono this ?_
  rintro _ S' ⟨x, hx, rfl⟩
  exact q x S' hx
end
end K20

namespace K20
open PySem PySem.Spec PyProof.Rows L2 L2.EV
noncomputable section
theorem forL_eq (w : D) : ∀ (ties : Ties) (rows : Rows) (B : Nat) (c2 c3 : Option Cell), noOwn [some (.s w), none, c2, c3, none] = true → (∀ p ∈ ties, p.1 < rows.length ∧ p.2 < rows.length) → (∀ p, (rows.getD p []).length ≤ B) → B + 2 * ties.length < 10000 →
    ∃ c2' c3', forN (gT (gCons0 (gN 2) (gCons0 (gN 3) gNil0))) bn__law_near_1 (ties.map (eP eN eN)) [some (.s w), none, c2, c3, none] (rows.map (eL eN)) = pure ([some (.s w), none, c2', c3', none], (rowsA0 rows ties).map (eL eN)) ∧ noOwn [some (.s w), none, c2', c3', none] = true
  | [], rows, B, c2, c3, h, _, _, _ => ⟨c2, c3, rfl, h⟩
  | (a, b) :: ties, rows, B, c2, c3, h, ht, hb, hz => by
    have hab := ht (a, b) List.mem_cons_self
    rw [List.length_cons] at hz
    have b1 := app_bound (b := b) hb hab.1
    have b2 := app_bound (rows := app rows a b) (a := b) (b := a) b1 (by rw [app_len]; exact hab.2)
    obtain ⟨c2', c3', e1, e2⟩ := forL_eq w ties (app (app rows a b) b a) (B + 1 + 1) (some (.s (eN a))) (some (.s (eN b))) rfl (fun p hp => by rw [app_len, app_len]; exact ht p (List.mem_cons_of_mem _ hp)) b2 (by omega)
    refine ⟨c2', c3', ?_, e2⟩
    rw [List.map_cons, forN]
    refine bind_of (a := [some (.s w), none, some (.s (eN a)), some (.s (eN b)), none]) rfl ?_
    refine bind_of (a := (app (app rows a b) b a).map (eL eN)) ?_ e1
    have h1 : (rows.getD a []).length < 10000 := Nat.lt_of_le_of_lt (hb a) (by omega)
    have h2 : ((app rows a b).getD b []).length < 10000 := Nat.lt_of_le_of_lt (b1 b) (by omega)
    exact bind_of (nApp_eq 2 3 (by rfl) (by rfl) (by rfl) hab.1 h1) (nApp_eq 3 2 (by rfl) (by rfl) (by rfl) (by rw [app_len]; exact hab.2) h2)
theorem m__law_near_eq (n : Nat) (ties : Ties) (hn : n < 1000) (ht : ∀ p ∈ ties, p.1 < n ∧ p.2 < n) (hz : ties.length < 1000) : m__law_near [eWeb n ties] = pure (eRows (rowsA n ties)) := by
  rw [un__law_near]
  have e0 : eLcN [2] (iSh (iRng rng1 (aCons (eBin dIx (eVarI 0) (eC (.int 0))) aNil))) (gN 2) bYes (eLst aNil) [some (.s (eWeb n ties)), none, none, none, none] = pure ((List.replicate n []).map (eL eN)) := by
    have ei : iSh (iRng rng1 (aCons (eBin dIx (eVarI 0) (eC (.int 0))) aNil)) [some (.s (eWeb n ties)), none, none, none, none] = pure ((List.range n).map eN) := by
      simp only [sRet, sSeq, sSet, sIf, sDrop, eCall, eCallU, aCons, aNil, eBin, eVar, eVarI, eC, eTup, eLst, eLc, eIf, eAnd, eOr, eNot, bOf, bAnd, bOr, bNot, bYes, asB, iSeq, iRng, iSh, sNil, sFor, sPar, cS, cO, cNil, sAsg, sOwn, sMeth, sFrz, frz, sRetO, ownAt, pure_bind, bind_assoc, M.of_some, andThen, endM, wipeE, List.getElem?_cons_succ, List.getElem?_cons_zero, List.set_cons_succ, List.set_cons_zero, seqOf_L, seqOf_T, dList_L, dList_T, dTuple_L, dTuple_T, dLen_L, dLen_T, Option.bind_some, Option.map_some, web0, rng1_N n (by omega)]
      rw [short_map (by rw [List.length_range, sizeLine_eq]; omega)]
      rfl
    refine bind_of ei ?_
    have := comp_map (xs := List.range n) (g := gN 2) (fe := eLst aNil) (ρ := wipeE [some (.s (eWeb n ties)), none, none, none, none] [2]) eN (fun _ => eL eN []) fun x _ => ⟨_, rfl, rfl⟩
    rw [this]
    congr 1
    rw [List.map_const', List.length_range, List.map_replicate]
  obtain ⟨c2, c3, e1, e2⟩ := forL_eq (eWeb n ties) ties (List.replicate n []) 0 none none rfl (fun p hp => by rw [List.length_replicate]; exact ht p hp) (fun p => by rw [List.getD_eq_getElem?_getD, List.getElem?_replicate]; split <;> simp) (by omega)
  have e3 : eLc [4] (iSeq (eVarI 1)) (gN 4) bYes ce__law_near_1 [some (.s (eWeb n ties)), some (.s (eRows (rowsA0 (List.replicate n []) ties))), c2, c3, none] = pure (eRows (rowsA n ties)) := by
    refine bind_of (a := (rowsA0 (List.replicate n []) ties).map (eL eN)) rfl (bind_of (comp_map (eL eN) (fun r => eL eN (srt r)) fun r _ => ⟨_, rfl, ?_⟩) ?_)
    · simp only [ce__law_near_1, sRet, sSeq, sSet, sIf, sDrop, eCall, eCallU, aCons, aNil, eBin, eVar, eVarI, eC, eTup, eLst, eLc, eIf, eAnd, eOr, eNot, bOf, bAnd, bOr, bNot, bYes, asB, iSeq, iRng, iSh, sNil, sFor, sPar, cS, cO, cNil, sAsg, sOwn, sMeth, sFrz, frz, sRetO, ownAt, pure_bind, bind_assoc, M.of_some, andThen, endM, wipeE, List.getElem?_cons_succ, List.getElem?_cons_zero, List.set_cons_succ, List.set_cons_zero, seqOf_L, seqOf_T, dList_L, dList_T, dTuple_L, dTuple_T, dLen_L, dLen_T, Option.bind_some, Option.map_some, EV.sorted_ints]
      rfl
    · unfold eRows rowsA
      show pure (D.lst _) = pure (eL _ _)
      congr 1
      unfold eL
      rw [List.map_map]
      rfl
  refine bind_of (a := Out.rt (eRows (rowsA n ties))) ?_ rfl
  unfold fb__law_near sNest
  refine bind_of (a := ()) rfl (bind_of e0 (bind_of (a := ties.map (eP eN eN)) ?_ (bind_of e1 ?_)))
  · simp only [sRet, sSeq, sSet, sIf, sDrop, eCall, eCallU, aCons, aNil, eBin, eVar, eVarI, eC, eTup, eLst, eLc, eIf, eAnd, eOr, eNot, bOf, bAnd, bOr, bNot, bYes, asB, iSeq, iRng, iSh, sNil, sFor, sPar, cS, cO, cNil, sAsg, sOwn, sMeth, sFrz, frz, sRetO, ownAt, pure_bind, bind_assoc, M.of_some, andThen, endM, wipeE, List.getElem?_cons_succ, List.getElem?_cons_zero, List.set_cons_succ, List.set_cons_zero, seqOf_L, seqOf_T, dList_L, dList_T, dTuple_L, dTuple_T, dLen_L, dLen_T, Option.bind_some, Option.map_some, web1]
  · show (if noOwn [some (.s (eWeb n ties)), none, c2, c3, none] = true then _ else _) = _
    rw [e2, if_pos rfl]
    exact bind_of e3 rfl
theorem erase_map {α β : Type} (f : α → β) : ∀ (l : List α) (j : Nat), (l.map f).eraseIdx j = (l.eraseIdx j).map f
  | [], _ => rfl
  | _ :: _, 0 => rfl
  | x :: l, j + 1 => by
    show f x :: (l.map f).eraseIdx j = _
    rw [erase_map f l j]; rfl
theorem erase_perm : ∀ (l : List Nat) (j : Nat) (h : j < l.length), (l[j] :: l.eraseIdx j).Perm l
  | [], _, h => absurd h (Nat.not_lt_zero _)
  | x :: l, 0, _ => List.Perm.refl _
  | x :: l, j + 1, h => by
    have h' : j < l.length := by rw [List.length_cons] at h; omega
    show (l[j] :: x :: l.eraseIdx j).Perm (x :: l)
    exact (List.Perm.swap x _ _).trans (List.Perm.cons x (erase_perm l j h'))
theorem hPopAt_N {xs : List Nat} {r : Nat} (h : r < xs.length) (hz : xs.length < 1000) : hPopAt (eL eN xs) [eN r] = some (eL eN (xs.eraseIdx r), eN (xs.getD r 0)) := by
  unfold hPopAt eL eN
  simp only
  rw [if_pos (by omega)]
  have e : seqIndex? (r : Int) (xs.map fun n : Nat => D.int n).length = some r := by
    have hn : ¬ ((r : Int) < 0) := by omega
    have c : (decide (0 ≤ (r : Int)) && decide ((r : Int) < (xs.length : Int))) = true := by
      rw [Bool.and_eq_true, decide_eq_true_eq, decide_eq_true_eq]; omega
    simp only [seqIndex?, List.length_map, hn, if_false]
    rw [if_pos c, Int.toNat_natCast]
  show (seqIndex? (r : Int) (xs.map fun n : Nat => D.int n).length).bind _ = _
  rw [e, Option.bind_some, List.getElem?_map, List.getElem?_eq_getElem h, List.getD_eq_getElem?_getD, List.getElem?_eq_getElem h, erase_map]
  rfl
theorem pop_spec : ∀ (ds : List D) (xs : List Nat) (ρ : Ev) (S : Src), ρ.length = 4 → ρ[2]? = some (some (.o (eL eN xs))) → ρ[0]? = some (some (.s .src)) → ds.length ≤ xs.length → xs.length < 1000 →
    wp (popC (gN 3) (aCons (eCallU m__law_pick (aCons (eVar 0) (aCons (eCall dLen (aCons (eVarI 2) aNil)) aNil))) aNil) 2 ds ρ) S fun ys _ => ∃ l zs : List Nat, ys = l.map eN ∧ (l ++ zs).Perm xs ∧ l.length = ds.length
  | [], xs, ρ, S, _, _, _, _, _ => wp_pure.mpr ⟨[], xs, rfl, List.Perm.refl _, rfl⟩
  | d :: ds, xs, ρ, S, hl, h2, h0, hz, hx => by
    have hpos : 1 ≤ xs.length := by rw [List.length_cons] at hz; omega
    rw [popC]
    have g0 : (ρ.set 3 (some (.s d)))[0]? = some (some (.s .src)) := by rw [List.getElem?_set_ne (by omega)]; exact h0
    have g2 : (ρ.set 3 (some (.s d)))[2]? = some (some (.o (eL eN xs))) := by rw [List.getElem?_set_ne (by omega)]; exact h2
    refine wp_bind.mpr (wp_of_eq (d := ρ.set 3 (some (.s d))) rfl (wp_bind.mpr ?_))
    have e0 : eVar 0 (ρ.set 3 (some (.s d))) = pure .src := by unfold eVar; rw [g0]; rfl
    have e2 : eVarI 2 (ρ.set 3 (some (.s d))) = pure (eL eN xs) := by unfold eVarI; rw [g2]; rfl
    refine wp_bind.mpr (wp_bind.mpr (wp_of_eq (d := [.src, eN xs.length]) (bind_of e0 (bind_of (a := [eN xs.length]) (bind_of (a := eN xs.length) (bind_of (a := [eL eN xs]) (bind_of e2 rfl) (by rw [dLen_L]; rfl)) rfl) rfl)) (wp_mono (pick_spec xs.length hpos (by omega) S) ?_)))
    rintro _ S1 ⟨r, rfl, hr⟩
    refine wp_of_eq (d := [eN r]) (bind_of (a := []) rfl rfl) (wp_bind.mpr (wp_of_eq (d := (eL eN (xs.eraseIdx r), eN (xs.getD r 0))) ?_ ?_))
    · have ho : ownAt (ρ.set 3 (some (.s d))) 2 = some (eL eN xs) := by unfold ownAt; rw [g2]
      rw [ho, Option.bind_some, hPopAt_N hr hx]; rfl
    have hel : (xs.eraseIdx r).length = xs.length - 1 := List.length_eraseIdx_of_lt hr
    refine wp_bind.mpr (wp_mono (pop_spec ds (xs.eraseIdx r) (ρ.set 2 (some (.o (eL eN (xs.eraseIdx r))))) S1 (by rw [List.length_set, hl]) (by rw [List.getElem?_set_self (by omega)]) (by rw [List.getElem?_set_ne (by omega)]; exact h0) (by rw [List.length_cons] at hz; omega) (by omega)) ?_)
    rintro _ S2 ⟨l, zs, rfl, hp, hll⟩
    have hxs : xs.getD r 0 = xs[r] := by rw [List.getD_eq_getElem?_getD, List.getElem?_eq_getElem hr]; rfl
    refine wp_pure.mpr ⟨xs.getD r 0 :: l, zs, rfl, ?_, by rw [List.length_cons, List.length_cons, hll]⟩
    rw [hxs]
    exact (List.Perm.cons _ hp).trans (erase_perm xs r hr)
theorem order_spec (xs : List Nat) (hx : xs.length < 1000) (S : Src) : wp (m__law_any_order [.src, eL eN xs]) S fun d _ => ∃ names, d = eL eN names ∧ names.Perm xs := by
  rw [un__law_any_order, wp_bind]
  refine wp_bind.mpr (wp_of_eq (d := Out.nx [some (.s .src), some (.s (eL eN xs)), some (.o (eL eN xs)), none]) rfl ?_)
  refine wp_bind.mpr (wp_of_eq (d := (List.range xs.length).map eN) (bind_of (a := [eN xs.length]) (bind_of (a := eN xs.length) (bind_of (a := [eL eN xs]) rfl (by rw [dLen_L]; rfl)) rfl) (by rw [rng1_N _ (by omega)]; rfl)) (wp_bind.mpr ?_))
  refine wp_mono (pop_spec ((List.range xs.length).map eN) xs _ S rfl rfl rfl (by rw [List.length_map, List.length_range]; exact Nat.le_refl _) hx) ?_
  rintro _ S1 ⟨l, zs, rfl, hp, hl⟩
  rw [List.length_map, List.length_range] at hl
  have hz : zs = [] := by
    have := hp.length_eq
    rw [List.length_append] at this
    exact List.length_eq_zero_iff.mp (by omega)
  subst hz
  rw [List.append_nil] at hp
  exact wp_of_eq (d := Out.rt (eL eN l)) (by rw [List.length_map, List.length_range, if_pos (by rw [sizeLine_eq]; omega)]; rfl) (wp_of_eq (d := eL eN l) rfl ⟨l, rfl, hp⟩)
def le2 (a b : Nat × Nat) : Bool := decide (a.1 < b.1 ∨ (a.1 = b.1 ∧ a.2 ≤ b.2))
theorem le2_pw (xs : List (Nat × Nat)) : (xs.mergeSort le2).Pairwise fun a b => le2 a b = true :=
  List.pairwise_mergeSort (fun a b c h1 h2 => by unfold le2 at *; rw [decide_eq_true_eq] at *; omega) (fun a b => by unfold le2; rw [Bool.or_eq_true, decide_eq_true_eq, decide_eq_true_eq]; omega) xs
/-! ### a dict by pairs, sorted -/
def putT {β : Type} (tab : List (List Nat × β)) (l : List Nat) (v : β) : List (List Nat × β) := if l ∈ tab.map (·.1) then tab.map (fun p => if p.1 = l then (p.1, v) else p) else tab ++ [(l, v)]
section
variable {β : Type} {ev : β → D} {tab : List (List Nat × β)}
theorem put_TN (l : List Nat) (v : β) : putD (tab.map fun p => (DKey.t (keyN p.1), ev p.2)) (.t (keyN l)) (ev v) = (putT tab l v).map fun p => (DKey.t (keyN p.1), ev p.2) := by
  unfold putD putT
  have e : ((tab.map fun p => (DKey.t (keyN p.1), ev p.2)).any fun p => decide (p.1 = .t (keyN l))) = decide (l ∈ tab.map (·.1)) := by
    rw [Bool.eq_iff_iff, List.any_eq_true, decide_eq_true_eq]
    constructor
    · rintro ⟨q, hq, e⟩
      obtain ⟨p, hp, rfl⟩ := List.mem_map.mp hq
      exact List.mem_map.mpr ⟨p, hp, keyN_inj.mp (DKey.t.inj (of_decide_eq_true e))⟩
    · intro hm
      obtain ⟨p, hp, rfl⟩ := List.mem_map.mp hm
      exact ⟨_, List.mem_map.mpr ⟨p, hp, rfl⟩, decide_eq_true rfl⟩
  rw [e]
  by_cases c : l ∈ tab.map (·.1)
  · rw [if_pos c, decide_eq_true c, if_pos rfl, List.map_map, List.map_map]
    refine List.map_congr_left fun p _ => ?_
    by_cases c2 : p.1 = l
    · simp [c2]
    · have : ¬ DKey.t (keyN p.1) = .t (keyN l) := fun z => c2 (keyN_inj.mp (DKey.t.inj z))
      simp [c2, this]
  · rw [if_neg c, decide_eq_false c, if_neg Bool.false_ne_true, List.map_append]
    rfl
theorem keys_putT (l : List Nat) (v : β) : (putT tab l v).map (·.1) = if l ∈ tab.map (·.1) then tab.map (·.1) else tab.map (·.1) ++ [l] := by
  unfold putT
  by_cases c : l ∈ tab.map (·.1)
  · rw [if_pos c, if_pos c, List.map_map]
    refine List.map_congr_left fun p _ => ?_
    show (if p.1 = l then (p.1, v) else p).1 = p.1
    split <;> rfl
  · rw [if_neg c, if_neg c, List.map_append]
    rfl
theorem sortK_TT (h0 : ∀ p ∈ tab, p.1 ≠ [] ∧ p.1.length ≤ sizeLine) : dSortK [eD ev tab] = some (eL (eT eN) ((tab.map (·.1)).mergeSort (PySem.W.dataLe false ptN))) := by
  unfold eD dSortK
  simp only
  have c : (tab.map fun p => (DKey.t (keyN p.1), ev p.2)).all (fun p => keyFit p.1) = true ∧ (∀ d ∈ ((tab.map fun p => (DKey.t (keyN p.1), ev p.2)).map fun p => keyOf p.1), (pyD d).depth ≤ 40) ∧ PySem.W.AllAlike (((tab.map fun p => (DKey.t (keyN p.1), ev p.2)).map fun p => keyOf p.1).map pyD) ∧ PySem.W.Sortable (((tab.map fun p => (DKey.t (keyN p.1), ev p.2)).map fun p => keyOf p.1).map pyD) := by
    rw [keys_T]
    refine ⟨?_, fun d hd => ?_, fun d hd d' hd' => ?_, .inl fun d hd => ?_⟩
    · rw [List.all_map, List.all_eq_true]
      intro p hp
      show decide ((keyN p.1).length ≤ sizeLine) = true
      rw [decide_eq_true_eq, keyN, List.length_map]
      exact (h0 p hp).2
    · obtain ⟨l, _, rfl⟩ := List.mem_map.mp hd
      rw [pyD_T]
      have := pt_depth l
      omega
    · obtain ⟨x, hx, rfl⟩ := List.mem_map.mp hd
      obtain ⟨y, hy, rfl⟩ := List.mem_map.mp hd'
      obtain ⟨n, _, rfl⟩ := List.mem_map.mp hx
      obtain ⟨m, _, rfl⟩ := List.mem_map.mp hy
      rw [pyD_T, pyD_T]
      exact pt_alike n m
    · obtain ⟨x, hx, rfl⟩ := List.mem_map.mp hd
      obtain ⟨n, hn, rfl⟩ := List.mem_map.mp hx
      obtain ⟨p, hp, rfl⟩ := List.mem_map.mp hn
      rw [pyD_T]
      cases e : p.1 with
      | nil => exact absurd e (h0 p hp).1
      | cons a l => exact ⟨.int a, _, rfl⟩
  rw [if_pos c, keys_T]
  refine congrArg (fun z => some (D.lst z)) ?_
  have q := List.map_mergeSort (r := fun a b : List Nat => PySem.W.dataLe false ptN a b) (s := PySem.W.dataLe false pyD) (f := eT eN) (l := tab.map (·.1)) fun a _ b _ => by
    show (!PySem.W.dataLt (ptN b) (ptN a)) = !PySem.W.dataLt (pyD (eT eN b)) (pyD (eT eN a))
    rw [pyD_T, pyD_T]
  exact q.symm
def mgT {β : Type} (tab more : List (List Nat × β)) : List (List Nat × β) := more.foldl (fun acc p => putT acc p.1 p.2) tab
theorem merge_TN : ∀ (more tab : List (List Nat × β)), mergeD (tab.map fun p => (DKey.t (keyN p.1), ev p.2)) (more.map fun p => (DKey.t (keyN p.1), ev p.2)) = (mgT tab more).map fun p => (DKey.t (keyN p.1), ev p.2)
  | [], tab => rfl
  | m :: more, tab => by
    rw [List.map_cons]
    show mergeD (putD (tab.map fun p => (DKey.t (keyN p.1), ev p.2)) (.t (keyN m.1)) (ev m.2)) _ = _
    rw [put_TN, merge_TN more]; rfl
theorem dDict_TM (tab : List (List Nat × β)) : dDict true [eL (eP (eT eN) ev) tab] = some (eD ev (mgT [] tab)) := by
  have e : pairsBy pairT (tab.map (eP (eT eN) ev)) = some (tab.map fun p => (keyN p.1, ev p.2)) := by
    induction tab with
    | nil => rfl
    | cons p tab ih =>
      rw [List.map_cons, pairsBy, ih]
      have : pairT (eP (eT eN) ev p) = some (keyN p.1, ev p.2) := by
        show ((scKeys (p.1.map eN)).map fun k => (k, ev p.2)) = _
        rw [scKeys_N]; rfl
      rw [this]; rfl
  have e3 : dDict true [eL (eP (eT eN) ev) tab] = (pairsBy pairT (tab.map (eP (eT eN) ev))).map fun ps => D.dct true (mergeD [] (tagT ps)) := rfl
  rw [e3, e]
  have e2 : tagT (tab.map fun p => (keyN p.1, ev p.2)) = tab.map fun p => (DKey.t (keyN p.1), ev p.2) := by unfold tagT; rw [List.map_map]; rfl
  show some (D.dct true (mergeD [] (tagT _))) = _
  rw [e2]
  have := merge_TN (ev := ev) tab []
  rw [List.map_nil] at this
  rw [this]; rfl
end
def l2 (p : Nat × Nat) : List Nat := [p.1, p.2]
theorem l2_inj {p q : Nat × Nat} (h : l2 p = l2 q) : p = q := by
  unfold l2 at h
  simp only [List.cons.injEq, and_true] at h
  exact Prod.ext h.1 h.2
def insP (acc : Ties) (p : Nat × Nat) : Ties := if p ∈ acc then acc else acc ++ [p]
def dedP (xs : Ties) : Ties := xs.foldl insP []
theorem keys_mgT : ∀ (xs acc : Ties) (tab : List (List Nat × Int)), tab.map (·.1) = acc.map l2 → (mgT tab (xs.map fun p => (l2 p, 0))).map (·.1) = (xs.foldl insP acc).map l2
  | [], acc, tab, h => h
  | p :: xs, acc, tab, h => by
    show (mgT (putT tab (l2 p) 0) (xs.map fun p => (l2 p, 0))).map (·.1) = _
    refine keys_mgT xs (insP acc p) _ ?_
    rw [keys_putT, h]
    have e : l2 p ∈ acc.map l2 ↔ p ∈ acc := by
      rw [List.mem_map]
      exact ⟨fun ⟨q, hq, e⟩ => l2_inj e ▸ hq, fun h => ⟨p, h, rfl⟩⟩
    unfold insP
    by_cases c : p ∈ acc
    · rw [if_pos c, if_pos (e.mpr c)]
    · rw [if_neg c, if_neg (fun h => c (e.mp h)), List.map_append]; rfl
theorem fold_insP : ∀ (xs acc : Ties), acc.Nodup → (xs.foldl insP acc).Nodup ∧ ∀ p, p ∈ xs.foldl insP acc ↔ p ∈ acc ∨ p ∈ xs
  | [], acc, h => ⟨h, fun p => by simp⟩
  | q :: xs, acc, h => by
    have h1 : (insP acc q).Nodup := by
      unfold insP
      split
      · exact h
      · rename_i c
        refine List.nodup_append.mpr ⟨h, by simp, fun a ha b hb e => ?_⟩
        rw [List.mem_singleton] at hb
        subst hb; subst e
        exact c ha
    obtain ⟨g1, g2⟩ := fold_insP xs (insP acc q) h1
    refine ⟨g1, fun p => ?_⟩
    rw [List.foldl_cons, g2, List.mem_cons]
    unfold insP
    split
    · rename_i c
      constructor
      · rintro (h | h)
        · exact .inl h
        · exact .inr (.inr h)
      · rintro (h | rfl | h)
        · exact .inl h
        · exact .inl c
        · exact .inr h
    · rw [List.mem_append, List.mem_singleton, or_assoc]
theorem sort_l2 (xs : Ties) : (xs.map l2).mergeSort (PySem.W.dataLe false ptN) = (xs.mergeSort le2).map l2 := by
  refine (List.map_mergeSort (r := le2) (s := PySem.W.dataLe false ptN) (f := l2) (l := xs) fun a _ b _ => ?_).symm
  have h2 := congrFun (congrFun (PySem.W.dataLe_ii (fun p : Nat × Nat => (p.1 : Int)) (fun p : Nat × Nat => (p.2 : Int))) a) b
  show _ = !PySem.W.dataLt (ptN (l2 b)) (ptN (l2 a))
  have h3 : (!PySem.W.dataLt (.tuple [.int (b.1 : Int), .int (b.2 : Int)]) (.tuple [.int (a.1 : Int), .int (a.2 : Int)])) = _ := h2
  unfold ptN l2
  show le2 a b = (!PySem.W.dataLt (.tuple [.int (b.1 : Int), .int (b.2 : Int)]) (.tuple [.int (a.1 : Int), .int (a.2 : Int)]))
  rw [h3]
  exact decide_eq_decide.mpr (by omega)
/-- sorted(dict([(p, 0) ..])) -/
theorem dict_sorted (xs : Ties) : ∃ d, dDict true [eL (eP (eT eN) D.int) (xs.map fun p => (l2 p, 0))] = some d ∧ dSortK [d] = some (eL (eP eN eN) ((dedP xs).mergeSort le2)) := by
  refine ⟨_, dDict_TM (ev := D.int) _, ?_⟩
  have hk := keys_mgT xs [] [] rfl
  rw [sortK_TT (ev := D.int) fun p hp => ?_]
  · rw [hk, sort_l2]
    unfold eL
    rw [List.map_map]; rfl
  · have : p.1 ∈ (mgT [] (xs.map fun p => (l2 p, (0 : Int)))).map (·.1) := List.mem_map.mpr ⟨p, hp, rfl⟩
    rw [hk] at this
    obtain ⟨q, _, e⟩ := List.mem_map.mp this
    rw [← e]
    exact ⟨by simp [l2], by rw [sizeLine_eq]; simp [l2]⟩
theorem ded_len : ∀ (xs acc : Ties), (xs.foldl insP acc).length ≤ acc.length + xs.length
  | [], acc => Nat.le_refl _
  | p :: xs, acc => by
    have h1 := ded_len xs (insP acc p)
    have h2 : (insP acc p).length ≤ acc.length + 1 := by
      unfold insP
      split
      · omega
      · rw [List.length_append]; exact Nat.le_refl _
    rw [List.foldl_cons, List.length_cons]
    omega
theorem len_le_of_sub : ∀ {xs ys : List Nat}, xs.Nodup → (∀ x ∈ xs, x ∈ ys) → xs.length ≤ ys.length
  | [], ys, _, _ => Nat.zero_le _
  | x :: xs, ys, h, hs => by
    have hx := hs x List.mem_cons_self
    rw [List.nodup_cons] at h
    have := len_le_of_sub (xs := xs) (ys := ys.erase x) h.2 fun y hy => (List.mem_erase_of_ne (fun z => h.1 (by rw [← z]; exact hy))).mpr (hs y (List.mem_cons_of_mem _ hy))
    rw [List.length_erase_of_mem hx] at this
    have p := List.length_pos_of_mem hx
    rw [List.length_cons]
    omega
theorem nd_le {xs : Lot} {n : Nat} (nd : xs.Nodup) (h : ∀ x ∈ xs, x < n) : xs.length ≤ n := by
  have := len_le_of_sub nd (ys := List.range n) fun x hx => List.mem_range.mpr (h x hx)
  rwa [List.length_range] at this
end
end K20

namespace K20
open PySem PySem.Spec PyProof.Rows L2 L2.EV
noncomputable section
theorem dPut_L {α : Type} {e : α → D} {xs : List α} {c : Nat} {v : α} (h : c < xs.length) : dPut (eL e xs) (eN c) (e v) = some (eL e (xs.set c v)) := by
  have e1 : ixN (xs.map e).length (c : Int) = some c := by rw [List.length_map]; exact (by unfold ixN; simp; omega)
  show (ixN (xs.map e).length (c : Int)).map (fun j => D.lst ((xs.map e).set j (e v))) = _
  rw [e1]
  unfold eL
  rw [List.map_set]
  rfl
def adj (ties : Ties) (p : Nat) : Lot := ties.flatMap fun q => (if q.1 = p then [q.2] else []) ++ (if q.2 = p then [q.1] else [])
theorem rowsA0_adj : ∀ (ties : Ties) (rows : Rows) (p : Nat), (∀ q ∈ ties, q.1 < rows.length ∧ q.2 < rows.length) → (rowsA0 rows ties).getD p [] = rows.getD p [] ++ adj ties p
  | [], rows, p, _ => by simp [rowsA0, adj]
  | q :: ties, rows, p, h => by
    have hq := h q List.mem_cons_self
    show (rowsA0 (app (app rows q.1 q.2) q.2 q.1) ties).getD p [] = _
    rw [rowsA0_adj ties _ p (fun r hr => by rw [app_len, app_len]; exact h r (List.mem_cons_of_mem _ hr)), app_get _ _ _ _ (by rw [app_len]; exact hq.2), app_get _ _ _ _ hq.1]
    unfold adj
    rw [List.flatMap_cons]
    by_cases a : q.1 = p <;> by_cases b : q.2 = p <;> simp [a, b]
theorem mem_adj {ties : Ties} {p x : Nat} : x ∈ adj ties p ↔ (p, x) ∈ ties ∨ (x, p) ∈ ties := by
  unfold adj
  rw [List.mem_flatMap]
  constructor
  · rintro ⟨q, hq, hx⟩
    rcases List.mem_append.mp hx with hx | hx
    · split at hx
      · rename_i c
        rw [List.mem_singleton] at hx
        exact .inl (by rw [← c, hx]; exact hq)
      · exact nomatch hx
    · split at hx
      · rename_i c
        rw [List.mem_singleton] at hx
        exact .inr (by rw [← c, hx]; exact hq)
      · exact nomatch hx
  · rintro (h | h)
    · exact ⟨_, h, List.mem_append_left _ (by rw [if_pos rfl]; exact List.mem_cons_self)⟩
    · exact ⟨_, h, List.mem_append_right _ (by rw [if_pos rfl]; exact List.mem_cons_self)⟩
theorem adj_len (ties : Ties) (p : Nat) : (adj ties p).length ≤ 2 * ties.length := by
  induction ties with
  | nil => exact Nat.le_refl _
  | cons q ties ih =>
    unfold adj at *
    rw [List.flatMap_cons, List.length_append, List.length_cons]
    have : ((if q.1 = p then [q.2] else []) ++ (if q.2 = p then [q.1] else [])).length ≤ 2 := by
      by_cases a : q.1 = p <;> by_cases b : q.2 = p <;> simp [a, b]
    omega
theorem srt_perm {xs ys : Lot} (h : xs.Perm ys) : srt xs = srt ys :=
  List.Perm.eq_of_pairwise (le := (· ≤ ·)) (fun a b _ _ h1 h2 => Nat.le_antisymm h1 h2) (srt_le xs) (srt_le ys) ((List.mergeSort_perm xs _).trans (h.trans (List.mergeSort_perm ys _).symm))
theorem range_get {n i a : Nat} (hi : (List.range n)[i]? = some a) : i < n ∧ i = a := by
  obtain ⟨h1, h2⟩ := List.getElem?_eq_some_iff.mp hi
  rw [List.length_range] at h1
  rw [List.getElem_range] at h2
  exact ⟨h1, h2⟩
theorem range2_get {s n i a : Nat} (hi : (List.range' s n)[i]? = some a) : i < n ∧ s + i = a := by
  obtain ⟨h1, h2⟩ := List.getElem?_eq_some_iff.mp hi
  rw [List.length_range'] at h1
  rw [List.getElem_range', Nat.one_mul] at h2
  exact ⟨h1, h2⟩
def nm (names : List Nat) (i : Nat) : Nat := names.getD i 0
def sp (names : List Nat) (p : Nat × Nat) : Nat × Nat := (min (nm names p.1) (nm names p.2), max (nm names p.1) (nm names p.2))
theorem nm_facts {n : Nat} {names : List Nat} (hp : names.Perm (List.range n)) : (∀ i, i < n → nm names i < n) ∧ (∀ i j, i < n → j < n → nm names i = nm names j → i = j) ∧ ∀ x, x < n → ∃ i, i < n ∧ nm names i = x := by
  have hl : names.length = n := by rw [hp.length_eq, List.length_range]
  have nd : names.Nodup := hp.nodup_iff.mpr List.nodup_range
  have get : ∀ i, (h : i < n) → names[i]? = some (nm names i) := fun i h => by
    unfold nm
    rw [List.getD_eq_getElem?_getD, List.getElem?_eq_getElem (by omega)]; rfl
  refine ⟨fun i h => List.mem_range.mp (hp.mem_iff.mp (List.mem_of_getElem? (get i h))), fun i j hi hj e => ?_, fun x hx => ?_⟩
  · have h1 := get i hi
    have h2 := get j hj
    rw [e] at h1
    obtain ⟨g1, g2⟩ := List.getElem?_eq_some_iff.mp h1
    obtain ⟨g3, g4⟩ := List.getElem?_eq_some_iff.mp h2
    rcases Nat.lt_trichotomy i j with h | h | h
    · exact absurd (g2.trans g4.symm) (List.pairwise_iff_getElem.mp nd i j g1 g3 h)
    · exact h
    · exact absurd (g4.trans g2.symm) (List.pairwise_iff_getElem.mp nd j i g3 g1 h)
  · obtain ⟨i, hi⟩ := List.getElem?_of_mem (hp.mem_iff.mpr (List.mem_range.mpr hx))
    obtain ⟨g1, g2⟩ := List.getElem?_eq_some_iff.mp hi
    have := get i (by omega)
    rw [hi] at this
    exact ⟨i, by omega, (Option.some.inj this).symm⟩
theorem rgD_N (n : Nat) (h : n < 1000000) : rgD [eN n] = some ((List.range n).map eN) := by
  have c : okR (n : Int) = true := by unfold okR; rw [decide_eq_true_eq]; omega
  have e := rng1_N n h
  have e : (if okR (n : Int) = true then some (rangeD 0 (n : Int).toNat) else none) = some ((List.range n).map eN) := e
  rw [if_pos c] at e
  show (if (okR (n : Int) && decide ((n : Int).toNat ≤ sizeLine)) = true then some (rangeD 0 (n : Int).toNat) else none) = _
  rw [if_pos, e]
  rw [c, Bool.true_and, decide_eq_true_eq, Int.toNat_natCast, sizeLine_eq]
  omega
theorem dMin_N (a b : Nat) : dMin2 [eN a, eN b] = some (eN (min a b)) := by
  show some (D.int (if (b : Int) < (a : Int) then (b : Int) else (a : Int))) = some (D.int ((min a b : Nat) : Int))
  congr 2
  split <;> omega
/-! ### drawn webs -/
structure WebOk (n : Nat) (ties : Ties) : Prop where
  pos : 1 ≤ n
  n12 : n ≤ 12
  lt : ∀ p ∈ ties, p.1 < p.2 ∧ p.2 < n
  nd : ties.Nodup
  sz : ties.length ≤ 200
theorem sorted2 (a b : Nat) : dSorted [eL eN [a, b]] = some (eL eN [min a b, max a b]) := by
  have h : dSorted [eL eN [a, b]] = some (eL eN (srt [a, b])) := EV.sorted_ints [a, b]
  have e : srt [a, b] = [min a b, max a b] := by
    refine List.Perm.eq_of_pairwise (le := (· ≤ ·)) (fun a b _ _ h1 h2 => Nat.le_antisymm h1 h2) (srt_le _) ?_ ?_
    · rw [List.pairwise_cons]
      exact ⟨fun x hx => by rw [List.mem_singleton] at hx; omega, by simp⟩
    · refine (List.mergeSort_perm _ _).trans ?_
      by_cases c : a ≤ b
      · rw [Nat.min_eq_left c, Nat.max_eq_right c]
      · rw [Nat.min_eq_right (by omega), Nat.max_eq_left (by omega)]
        exact List.Perm.swap b a []
  rw [e] at h
  exact h
theorem named_spec (n : Nat) (L : Ties) (h1 : 1 ≤ n) (hn : n ≤ 12) (hL : ∀ p ∈ L, p.1 < p.2 ∧ p.2 < n) (hz : L.length ≤ 200) (S : Src) :
    wp (m__law_named [.src, eN n, eL (eP eN eN) L]) S fun d _ => ∃ ties, WebOk n ties ∧ ties.length ≤ L.length ∧ d = eWeb n ties := by
  rw [un__law_named, wp_bind]
  refine wp_bind.mpr (wp_bind.mpr (wp_bind.mpr (wp_of_eq (d := [.src, eL eN (List.range n)]) (bind_of (a := D.src) rfl (bind_of (a := [eL eN (List.range n)]) (bind_of (a := eL eN (List.range n)) (bind_of (a := [eN n]) rfl (by rw [rgD_N n (by omega)]; rfl)) rfl) rfl)) (wp_mono (order_spec (List.range n) (by rw [List.length_range]; omega) S) ?_))))
  rintro _ S1 ⟨names, rfl, hp⟩
  refine wp_of_eq (d := Out.nx [some (.s .src), some (.s (eN n)), some (.s (eL (eP eN eN) L)), some (.s (eL eN names)), none, none]) rfl ?_
  have hl : names.length = n := by rw [hp.length_eq, List.length_range]
  have get : ∀ i, (h : i < n) → names[i]? = some (nm names i) := fun i h => by
    unfold nm
    rw [List.getD_eq_getElem?_getD, List.getElem?_eq_getElem (by omega)]; rfl
  obtain ⟨f1, f2, f3⟩ := nm_facts hp
  obtain ⟨d, hd1, hd2⟩ := dict_sorted (L.map (sp names))
  have e1 : eLc [4, 5] (iSeq (eVarI 2)) (gT (gCons0 (gN 4) (gCons0 (gN 5) gNil0))) bYes ce__law_named_1 [some (.s .src), some (.s (eN n)), some (.s (eL (eP eN eN) L)), some (.s (eL eN names)), none, none] = pure (eL (eP (eT eN) D.int) ((L.map (sp names)).map fun p => (l2 p, 0))) := by
    refine bind_of (a := L.map (eP eN eN)) rfl (bind_of (comp_map (eP eN eN) (fun p => eP (eT eN) D.int (l2 (sp names p), 0)) fun p hpL => ⟨_, rfl, ?_⟩) (by unfold eL; rw [List.map_map, List.map_map]; rfl))
    obtain ⟨q1, q2⟩ := hL p hpL
    refine bind_of (a := [eT eN (l2 (sp names p)), .int 0]) (bind_of (a := eT eN (l2 (sp names p))) (bind_of (a := [eL eN (l2 (sp names p))]) (bind_of (a := eL eN (l2 (sp names p))) (bind_of (a := [eL eN [nm names p.1, nm names p.2]]) (bind_of (a := eL eN [nm names p.1, nm names p.2]) (bind_of (a := [eN (nm names p.1), eN (nm names p.2)]) (bind_of (a := eN (nm names p.1)) (bind_of (a := eL eN names) rfl (bind_of (a := eN p.1) rfl (by rw [dIx_L (e := eN) p.1 (get p.1 (by omega))]; rfl))) (bind_of (a := [eN (nm names p.2)]) (bind_of (a := eN (nm names p.2)) (bind_of (a := eL eN names) rfl (bind_of (a := eN p.2) rfl (by rw [dIx_L (e := eN) p.2 (get p.2 q2)]; rfl))) rfl) rfl)) rfl) rfl) (by rw [sorted2]; rfl)) rfl) rfl) rfl) rfl
  have hlen : (dedP (L.map (sp names))).length ≤ L.length := by
    have := ded_len (L.map (sp names)) []
    rw [List.length_map] at this
    unfold dedP
    simpa using this
  obtain ⟨g1, g2⟩ := fold_insP (L.map (sp names)) [] List.nodup_nil
  have ok : WebOk n ((dedP (L.map (sp names))).mergeSort le2) := by
    refine ⟨h1, hn, fun p hp => ?_, (List.mergeSort_perm _ _).nodup_iff.mpr g1, by rw [List.length_mergeSort]; omega⟩
    rw [List.mem_mergeSort] at hp
    rcases (g2 p).mp hp with h | h
    · exact nomatch h
    · obtain ⟨q, hq, rfl⟩ := List.mem_map.mp h
      obtain ⟨q1, q2⟩ := hL q hq
      have a1 := f1 q.1 (by omega)
      have a2 := f1 q.2 q2
      have ne : nm names q.1 ≠ nm names q.2 := fun e => by
        have := f2 q.1 q.2 (by omega) q2 e
        omega
      unfold sp
      omega
  have hml : ((dedP (L.map (sp names))).mergeSort le2).length ≤ L.length := by rw [List.length_mergeSort]; exact hlen
  generalize (dedP (L.map (sp names))).mergeSort le2 = ties at *
  refine wp_of_eq (d := Out.rt (eWeb n ties)) (bind_of (a := eWeb n ties) (bind_of (a := [eN n, eT (eP eN eN) ties]) (bind_of (a := eN n) rfl (bind_of (a := [eT (eP eN eN) ties]) (bind_of (a := eT (eP eN eN) ties) (bind_of (a := [eL (eP eN eN) ties]) (bind_of (a := eL (eP eN eN) ties) (bind_of (a := [d]) (bind_of (a := d) (bind_of (a := [eL (eP (eT eN) D.int) ((L.map (sp names)).map fun p => (l2 p, 0))]) (bind_of e1 rfl) (by rw [hd1]; rfl)) rfl) (by rw [hd2]; rfl)) rfl) rfl) rfl) rfl)) rfl) rfl) (wp_pure.mpr ⟨ties, ok, ?_, rfl⟩)
  exact hml
end
end K20

namespace K20
open PySem PySem.Spec PyProof.Rows L2 L2.EV
noncomputable section
abbrev envT (n : Nat) (L : Ties) (way : Nat) (c2 c5 : Option Cell) : Ev := [some (.s .src), some (.s (eN n)), c2, some (.s (eN way)), some (.o (eL (eP eN eN) L)), c5]
theorem tree_spec (n : Nat) (h1 : 1 ≤ n) (hn : n ≤ 12) (S : Src) :
    wp (m__law_tree [.src, eN n]) S fun d _ => ∃ ties, WebOk n ties ∧ ties.length ≤ n ∧ d = eWeb n ties := by
  rw [un__law_tree, wp_bind]
  unfold fb__law_tree
  refine wp_bind.mpr (wp_bind.mpr (wp_bind.mpr (wp_pick (k := 4) (by omega) (by omega) rfl S fun way S1 hw => ?_)))
  refine wp_of_eq (d := [Cell.s (eN way), .o (eL (eP eN eN) [])]) rfl (wp_of_eq (d := Out.nx (envT n [] way none none)) rfl ?_)
  refine wp_bind.mpr (wp_bind.mpr (wp_of_eq (d := (List.range' 1 (n - 1)).map eN) (bind_of (a := [eN 1, eN n]) rfl (by rw [rng2_N _ n (by omega) (by omega)]; rfl)) ?_))
  refine wp_for eN (fun i ρ S' => ∃ L c2 c5, ρ = envT n L way c2 c5 ∧ L.length = i ∧ ∀ p ∈ L, p.1 < p.2 ∧ p.2 < n) ⟨[], none, none, rfl, rfl, fun p h => nomatch h⟩ ?_ ?_
  · rintro i k ρ S' hi ⟨L, c2, c5, rfl, hL, hlt⟩
    obtain ⟨hi1, hk⟩ := range2_get hi
    have hk1 : 1 ≤ k := by omega
    have hmin : dMin2 [eN k, eN 2] = some (eN (min k 2)) := dMin_N k 2
    have hm1 : 1 ≤ min k 2 := by omega
    have hm2 : min k 2 ≤ k := by omega
    refine ⟨_, rfl, wp_bind.mpr ?_⟩
    refine wp_bind.mpr (wp_bind.mpr (wp_bind.mpr (wp_pick (k := k) hk1 (by omega) rfl S' fun a S2 ha => ?_)))
    have ea : ∀ c5, (aCons (eVar 0) (aCons (eCall dMin2 (aCons (eVarI 2) (aCons (eC (.int 2)) aNil))) aNil)) (envT n L way (some (.s (eN k))) c5) = pure [.src, eN (min k 2)] := fun c5 =>
      bind_of (a := D.src) rfl (bind_of (a := [eN (min k 2)]) (bind_of (a := eN (min k 2)) (bind_of (a := [eN k, eN 2]) rfl (by rw [hmin]; rfl)) rfl) rfl)
    have ek : ∀ c5, eBin dSub (eVarI 2) (eC (.int 1)) (envT n L way (some (.s (eN k))) c5) = pure (eN (k - 1)) := fun c5 => bind_of (a := eN k) rfl (bind_of (a := eN 1) rfl (by rw [dSub_N hk1]; rfl))
    refine wp_bind.mpr (wp_bind.mpr (wp_bind.mpr (wp_of_eq (ek c5) (wp_bind.mpr (wp_pick (k := min k 2) hm1 (by omega) (ea c5) S2 fun b S3 hb => ?_)))))
    refine wp_of_eq (d := eN (k - 1 - b)) (by rw [dSub_N (by omega)]; rfl) (wp_bind.mpr (wp_bind.mpr (wp_pick (k := min k 2) hm1 (by omega) (ea c5) S3 fun c S4 hc => ?_)))
    refine wp_of_eq (d := [eN c, eN (k - 1)]) (bind_of (a := [eN (k - 1)]) (bind_of (ek c5) rfl) rfl) (wp_of_eq (d := [eN (k - 1 - b), eN c, eN (k - 1)]) rfl (wp_of_eq (d := [eN a, eN (k - 1 - b), eN c, eN (k - 1)]) rfl (wp_of_eq (d := eL eN [a, k - 1 - b, c, k - 1]) rfl ?_)))
    refine wp_of_eq (d := Out.nx (envT n L way (some (.s (eN k))) (some (.s (eL eN [a, k - 1 - b, c, k - 1]))))) rfl ?_
    obtain ⟨x, hx, hxk⟩ : ∃ x, [a, k - 1 - b, c, k - 1][way]? = some x ∧ x < k := by
      match way, hw with
      | 0, _ => exact ⟨_, rfl, ha⟩
      | 1, _ => exact ⟨_, rfl, by omega⟩
      | 2, _ => exact ⟨_, rfl, by omega⟩
      | 3, _ => exact ⟨_, rfl, by omega⟩
    refine wp_of_eq (d := Out.nx (envT n (L ++ [(x, k)]) way (some (.s (eN k))) (some (.s (eL eN [a, k - 1 - b, c, k - 1]))))) (bind_of (a := [eP eN eN (x, k)]) (bind_of (a := eP eN eN (x, k)) (bind_of (a := [eN x, eN k]) (bind_of (a := eN x) (bind_of (a := eL eN [a, k - 1 - b, c, k - 1]) rfl (bind_of (a := eN way) rfl (by rw [dIx_L (e := eN) way hx]; rfl))) rfl) rfl) rfl) ?_) ?_
    · show M.of ((hAppend (eL (eP eN eN) L) [eP eN eN (x, k)]).map _) = _
      rw [hAppend_L (by omega)]; rfl
    · refine ⟨_, _, _, rfl, by rw [List.length_append, hL]; rfl, fun p hp => ?_⟩
      rcases List.mem_append.mp hp with hp | hp
      · exact hlt p hp
      · rw [List.mem_singleton] at hp; subst hp
        exact ⟨hxk, by show k < n; omega⟩
  · rintro ρ S' ⟨L, c2, c5, rfl, hL, hlt⟩
    rw [List.length_range'] at hL
    have key := named_spec n L h1 hn hlt (by omega) S'
    refine wp_bind.mpr (wp_bind.mpr (wp_of_eq (d := [.src, eN n, eL (eP eN eN) L]) rfl (wp_mono key ?_)))
    rintro _ S2 ⟨ties, w, hl, rfl⟩
    exact wp_of_eq (d := Out.rt (eWeb n ties)) rfl (wp_pure.mpr ⟨ties, w, by omega, rfl⟩)
end
end K20

namespace K20
open PySem PySem.Spec PyProof.Rows L2 L2.EV
noncomputable section
abbrev envW (n : Nat) (L : Ties) (sh : Nat) (c2 c3 c6 : Option Cell) : Ev := [some (.s .src), some (.s (eN n)), c2, c3, some (.s (eL (eP eN eN) L)), some (.s (eN sh)), c6]
theorem tri (i : Nat) : i * i + i ≤ i * i + 2 * i := by omega
theorem web_spec (n : Nat) (h1 : 1 ≤ n) (hn : n ≤ 12) (S : Src) :
    wp (m__law_web [.src, eN n]) S fun d _ => ∃ ties, WebOk n ties ∧ ties.length ≤ 160 ∧ d = eWeb n ties := by
  rw [un__law_web, wp_bind]
  unfold fb__law_web
  refine wp_bind.mpr (wp_bind.mpr (wp_bind.mpr (wp_of_eq (d := eL (eP eN eN) []) rfl (wp_bind.mpr (wp_bind.mpr (wp_pick (k := 7) (by omega) (by omega) rfl S fun sh S1 hw => ?_))))))
  refine wp_of_eq (d := [Cell.s (eN sh)]) rfl (wp_of_eq (d := [Cell.s (eL (eP eN eN) []), .s (eN sh)]) rfl (wp_of_eq (d := Out.nx (envW n [] sh none none none)) rfl ?_))
  refine wp_bind.mpr (wp_bind.mpr (wp_of_eq (d := (List.range n).map eN) (bind_of (a := [eN n]) rfl (by rw [rng1_N n (by omega)]; rfl)) ?_))
  refine wp_for eN (fun i ρ S' => ∃ L c2, ρ = envW n L sh c2 none none ∧ L.length ≤ i * 12 ∧ ∀ p ∈ L, p.1 < p.2 ∧ p.2 < n) ⟨[], none, rfl, by simp, fun p h => nomatch h⟩ ?_ ?_
  · rintro i b ρ S' hi ⟨L, c2, rfl, hL, hlt⟩
    obtain ⟨hi1, rfl⟩ := range_get hi
    refine ⟨_, rfl, wp_bind.mpr ?_⟩
    refine wp_bind.mpr (wp_of_eq (d := eL (eP eN eN) L) rfl (wp_bind.mpr (wp_bind.mpr (wp_of_eq (d := (List.range i).map eN) (bind_of (a := (List.range i).map eN) (bind_of (a := [eN i]) rfl (by rw [rng1_N i (by omega)]; rfl)) (by rw [short_map (by rw [List.length_range, sizeLine_eq]; omega)]; rfl)) (wp_bind.mpr ?_)))))
    refine wp_comp eN (fun j acc S3 => ∃ ps : Ties, acc = ps.map (eP eN eN) ∧ (∀ p ∈ ps, p.1 < p.2 ∧ p.2 < n) ∧ ps.length ≤ j) ⟨[], rfl, by simp, by simp⟩ ?_ ?_
    · rintro j a acc S3 hj ⟨ps, rfl, hps, hpl⟩
      obtain ⟨hj1, rfl⟩ := range_get hj
      refine ⟨_, rfl, wp_bind.mpr (wp_bind.mpr (wp_pick (k := 8) (by omega) (by omega) rfl S3 fun r S4 hr => ?_))⟩
      refine wp_bind.mpr (wp_of_eq (d := eN sh) rfl (wp_of_eq (d := D.bl (decide (r < sh))) (by rw [dLt_N]; rfl) (wp_of_eq (d := decide (r < sh)) rfl ?_)))
      split
      · refine wp_of_eq (d := eP eN eN (j, i)) rfl ⟨ps ++ [(j, i)], by rw [List.map_append]; rfl, fun p hp => ?_, by rw [List.length_append, List.length_singleton]; omega⟩
        rcases List.mem_append.mp hp with hp | hp
        · exact hps p hp
        · rw [List.mem_singleton] at hp; subst hp
          exact ⟨hj1, hi1⟩
      · exact ⟨ps, rfl, hps, by omega⟩
    · rintro acc S3 ⟨ps, rfl, hps, hpl⟩
      rw [List.length_range] at hpl
      refine wp_of_eq (d := eL (eP eN eN) ps) rfl (wp_of_eq (d := eL (eP eN eN) (L ++ ps)) (by rw [dAdd_L (by rw [sizeLine_eq]; omega)]; rfl) (wp_of_eq (d := Out.nx (envW n (L ++ ps) sh (some (.s (eN i))) none none)) rfl ⟨L ++ ps, _, rfl, by rw [List.length_append, Nat.add_mul]; omega, fun p hp => ?_⟩))
      rcases List.mem_append.mp hp with hp | hp
      · exact hlt p hp
      · exact hps p hp
  · rintro ρ S' ⟨L, c2, rfl, hL, hlt⟩
    rw [List.length_range] at hL
    have fin : ∀ (M : Ties) (S2 : Src), (∀ p ∈ M, p.1 < p.2 ∧ p.2 < n) → M.length ≤ n → wp (sRet (eCallU m__law_named (aCons (eVar 0) (aCons (eVar 1) (aCons (eBin dAdd (eVarI 4) (eVarI 3)) aNil)))) (envW n L sh c2 (some (.s (eL (eP eN eN) M))) none)) S2 fun o S' => wp (endM o) S' fun d _ => ∃ ties, WebOk n ties ∧ ties.length ≤ 160 ∧ d = eWeb n ties := fun M S2 hM hMl => by
      refine wp_bind.mpr (wp_bind.mpr (wp_of_eq (d := [.src, eN n, eL (eP eN eN) (L ++ M)]) (bind_of (a := D.src) rfl (bind_of (a := [eN n, eL (eP eN eN) (L ++ M)]) (bind_of (a := eN n) rfl (bind_of (a := [eL (eP eN eN) (L ++ M)]) (bind_of (a := eL (eP eN eN) (L ++ M)) (bind_of (a := eL (eP eN eN) L) rfl (bind_of (a := eL (eP eN eN) M) rfl (by rw [dAdd_L (by rw [sizeLine_eq]; omega)]; rfl))) rfl) rfl)) rfl)) (wp_mono (named_spec n (L ++ M) h1 hn (fun p hp => (List.mem_append.mp hp).elim (hlt p) (hM p)) (by rw [List.length_append]; omega) S2) ?_)))
      rintro _ S3 ⟨ties, w, hl, rfl⟩
      rw [List.length_append] at hl
      exact wp_of_eq (d := Out.rt (eWeb n ties)) rfl (wp_pure.mpr ⟨ties, w, by omega, rfl⟩)
    refine wp_bind.mpr (wp_bind.mpr (wp_bind.mpr (wp_bind.mpr (wp_of_eq (d := true) (bind_of (a := .bl (decide (0 < n))) (bind_of (a := eN n) rfl (bind_of (a := eN 0) rfl (by rw [show dGt (eN n) (eN 0) = _ from dGt_N n 0]; rfl))) (by rw [decide_eq_true (by omega)]; rfl)) ?_))))
    rw [if_pos rfl]
    refine wp_bind.mpr (wp_bind.mpr (wp_pick (k := 2) (by omega) (by omega) rfl S' fun r S2 hr => ?_))
    refine wp_bind.mpr (wp_of_eq (d := eN 0) rfl (wp_of_eq (d := D.bl (decide (r = 0))) (by rw [dEq_good good_N (by omega) r 0]; rfl) (wp_of_eq (d := decide (r = 0)) rfl ?_)))
    by_cases c : r = 0
    · rw [decide_eq_true c, if_pos rfl]
      refine wp_bind.mpr (wp_bind.mpr (wp_bind.mpr (wp_bind.mpr (wp_of_eq (d := [.src, eN n]) rfl (wp_mono (tree_spec n h1 hn S2) ?_)))))
      rintro _ S3 ⟨ties, w, hl, rfl⟩
      refine wp_bind.mpr (wp_of_eq (d := .int 1) rfl (wp_of_eq (d := eT (eP eN eN) ties) rfl (wp_of_eq (d := [eT (eP eN eN) ties]) rfl (wp_of_eq (d := eL (eP eN eN) ties) rfl (wp_of_eq (d := Out.nx (envW n L sh c2 (some (.s (eL (eP eN eN) ties))) none)) rfl (fin ties S3 w.lt hl))))))
    · rw [decide_eq_false c, if_neg Bool.false_ne_true]
      exact wp_of_eq (d := eL (eP eN eN) []) rfl (wp_of_eq (d := Out.nx (envW n L sh c2 (some (.s (eL (eP eN eN) []))) none)) rfl (fin [] S2 (fun p h => nomatch h) (by simp)))
end
end K20

namespace K20
open PySem PySem.Spec PyProof.Rows L2 L2.EV
noncomputable section
/-! ### claws -/
abbrev Q4 := Nat × Nat × Nat × Nat
def e4 (q : Q4) : D := .tup [eN q.1, eN q.2.1, eN q.2.2.1, eN q.2.2.2]
abbrev nb (rows : Rows) (a : Nat) : Lot := rows.getD a []
def cl3 (rows : Rows) (c a b : Nat) : List Q4 := ((nb rows c).filter fun d => decide (b < d) && (!decide (d ∈ nb rows a) && !decide (d ∈ nb rows b))).map fun d => (c, a, b, d)
def bs (rows : Rows) (c a : Nat) : Lot := (nb rows c).filter fun b => decide (a < b) && !decide (b ∈ nb rows a)
def clA (rows : Rows) (c a : Nat) : List Q4 := (bs rows c a).flatMap (cl3 rows c a)
def clC (rows : Rows) (c : Nat) : List Q4 := (nb rows c).flatMap (clA rows c)
def claws (rows : Rows) : List Q4 := (List.range rows.length).flatMap (clC rows)
structure ROk (rows : Rows) : Prop where
  n12 : rows.length ≤ 12
  len : ∀ c, (nb rows c).length ≤ 12
  lt : ∀ c, ∀ a ∈ nb rows c, a < rows.length
  up : ∀ c, (nb rows c).Pairwise (· < ·)
  sym : ∀ c a, a ∈ nb rows c → c ∈ nb rows a
theorem flat_le {α β : Type} {f : α → List β} {B : Nat} : ∀ (xs : List α), (∀ a, (f a).length ≤ B) → (xs.flatMap f).length ≤ xs.length * B
  | [], _ => by simp
  | x :: xs, h => by
    have h1 := flat_le xs h
    have h2 := h x
    rw [List.flatMap_cons, List.length_append, List.length_cons, Nat.add_mul]
    omega
theorem take_le {α β : Type} {f : α → List β} {B : Nat} (xs : List α) (i : Nat) (h : ∀ a, (f a).length ≤ B) : ((xs.take i).flatMap f).length ≤ xs.length * B := by
  have h1 := flat_le (xs.take i) h
  have h2 : (xs.take i).length ≤ xs.length := by rw [List.length_take]; omega
  exact Nat.le_trans h1 (Nat.mul_le_mul_right B h2)
theorem flat_snoc {α β : Type} (f : α → List β) (xs : List α) (i : Nat) (x : α) (h : xs[i]? = some x) : (xs.take (i + 1)).flatMap f = (xs.take i).flatMap f ++ f x := by
  rw [List.take_succ, h, List.flatMap_append]; simp
theorem range_take {n i : Nat} (h : i ≤ n) : (List.range n).take i = List.range i := by
  rw [List.take_range, Nat.min_eq_left h]
section
variable {rows : Rows} (R : ROk rows)
include R
theorem cl3_len (c a b : Nat) : (cl3 rows c a b).length ≤ 12 := by
  unfold cl3
  rw [List.length_map]
  exact Nat.le_trans (List.length_filter_le _ _) (R.len c)
theorem clA_len (c a : Nat) : (clA rows c a).length ≤ 144 := by
  have h1 := flat_le (bs rows c a) (fun b => cl3_len R c a b)
  have h2 : (bs rows c a).length ≤ 12 := Nat.le_trans (List.length_filter_le _ _) (R.len c)
  unfold clA
  omega
theorem clC_len (c : Nat) : (clC rows c).length ≤ 1728 := by
  have h1 := flat_le (nb rows c) (fun b => clA_len R c b)
  have h2 := R.len c
  unfold clC
  omega
theorem claws_len : (claws rows).length ≤ 20736 := by
  have h1 := flat_le (List.range rows.length) (fun b => clC_len R b)
  rw [List.length_range] at h1
  have h2 := R.n12
  unfold claws
  omega
end
theorem ix_row {rows : Rows} {a : Nat} (h : a < rows.length) : dIx (eRows rows) (eN a) = some (eL eN (nb rows a)) := dIx_L (e := eL eN) a (row_at h)
theorem row_ix {rows : Rows} {i j a : Nat} {ρ : Ev} (h0 : ρ[i]? = some (some (.s (eRows rows)))) (hj : ρ[j]? = some (some (.s (eN a)))) (h : a < rows.length) : eBin dIx (eVarI i) (eVarI j) ρ = pure (eL eN (nb rows a)) := by
  refine bind_of (a := eRows rows) (by unfold eVarI; rw [h0]; rfl) (bind_of (a := eN a) (by unfold eVarI; rw [hj]; rfl) (by rw [ix_row h]; rfl))
theorem nin_N (x : Nat) (xs : Lot) : dNotIn (eN x) (eL eN xs) = some (.bl (!decide (x ∈ xs))) := (dNotIn_L good_N (by omega) x xs).trans (congrArg (fun b : Bool => some (D.bl (!b))) (decide_eq_decide.mpr Iff.rfl))
theorem in_N (x : Nat) (xs : Lot) : dIn (eN x) (eL eN xs) = some (.bl (decide (x ∈ xs))) := (dIn_L good_N (by omega) x xs).trans (congrArg (fun b : Bool => some (D.bl b)) (decide_eq_decide.mpr Iff.rfl))
theorem nin_row {rows : Rows} {i j k a x : Nat} {ρ : Ev} (h0 : ρ[i]? = some (some (.s (eRows rows)))) (hj : ρ[j]? = some (some (.s (eN a)))) (hk : ρ[k]? = some (some (.s (eN x)))) (h : a < rows.length) :
    bOf (eBin dNotIn (eVarI k) (eBin dIx (eVarI i) (eVarI j))) ρ = pure (!decide (x ∈ nb rows a)) :=
  bind_of (a := .bl (!decide (x ∈ nb rows a))) (bind_of (a := eN x) (by unfold eVarI; rw [hk]; rfl) (bind_of (row_ix h0 hj h) (by rw [nin_N]; rfl))) rfl
theorem lt_row {j k a x : Nat} {ρ : Ev} (hj : ρ[j]? = some (some (.s (eN a)))) (hk : ρ[k]? = some (some (.s (eN x)))) : bOf (eBin dLt (eVarI j) (eVarI k)) ρ = pure (decide (a < x)) :=
  bind_of (a := .bl (decide (a < x))) (bind_of (a := eN a) (by unfold eVarI; rw [hj]; rfl) (bind_of (a := eN x) (by unfold eVarI; rw [hk]; rfl) (by rw [dLt_N]; rfl))) rfl
theorem and_ok {f g : Ev → M Bool} {ρ : Ev} {a b : Bool} (hf : f ρ = pure a) (hg : a = true → g ρ = pure b) : bAnd f g ρ = pure (a && b) := by
  refine bind_of hf ?_
  cases a with
  | false => rfl
  | true => exact hg rfl
section
variable {rows : Rows} (R : ROk rows)
include R
theorem m__law_claws_eq : m__law_claws [eRows rows] = pure (eL e4 (claws rows)) := by
  have hn := R.n12
  refine eq_pure fun S => ?_
  rw [un__law_claws, wp_bind]
  refine wp_bind.mpr (wp_of_eq (d := Out.nx [some (.s (eRows rows)), some (.s (eL e4 [])), none, none, none, none]) rfl (wp_bind.mpr (wp_bind.mpr (wp_of_eq (d := (List.range rows.length).map eN) (bind_of (a := [eN rows.length]) (bind_of (a := eN rows.length) (bind_of (a := [eRows rows]) rfl (by rw [show dLen [eRows rows] = _ from dLen_L (e := eL eN)]; rfl)) rfl) (by rw [rng1_N _ (by omega)]; rfl)) ?_))))
  refine wp_for eN (fun i ρ S' => S' = S ∧ ∃ c2 c3 c4, ρ = [some (.s (eRows rows)), some (.s (eL e4 (((List.range rows.length).take i).flatMap (clC rows)))), c2, c3, c4, none]) ⟨rfl, none, none, none, rfl⟩ ?_ ?_
  · rintro i c ρ S1 hi ⟨rfl, c2, c3, c4, rfl⟩
    have hi0 := hi
    obtain ⟨hin, rfl⟩ := range_get hi
    refine ⟨_, rfl, wp_bind.mpr (wp_of_eq (d := (nb rows i).map eN) (bind_of (row_ix (a := i) rfl rfl hin) rfl) ?_)⟩
    refine wp_for eN (fun j ρ S' => S' = S1 ∧ ∃ c3 c4, ρ = [some (.s (eRows rows)), some (.s (eL e4 (((List.range rows.length).take i).flatMap (clC rows) ++ ((nb rows i).take j).flatMap (clA rows i)))), some (.s (eN i)), c3, c4, none]) ⟨rfl, c3, c4, by simp [List.set]⟩ ?_ ?_
    · rintro j a ρ S2 hj ⟨rfl, c3, c4, rfl⟩
      have ha := R.lt i a (List.mem_of_getElem? hj)
      refine ⟨_, rfl, wp_bind.mpr (wp_of_eq (d := (bs rows i a).map eN) (bind_of (a := eL eN (bs rows i a)) (bind_of (a := (nb rows i).map eN) (bind_of (row_ix (a := i) rfl rfl hin) rfl) (bind_of (comp_pure eN (fun b => decide (a < b) && !decide (b ∈ nb rows a)) eN fun b _ => ⟨_, rfl, and_ok (lt_row (a := a) (x := b) rfl rfl) (fun _ => nin_row (a := a) (x := b) rfl rfl rfl ha), fun _ => rfl⟩) rfl)) rfl) ?_)⟩
      refine wp_for eN (fun l ρ S' => S' = S2 ∧ ∃ c4, ρ = [some (.s (eRows rows)), some (.s (eL e4 ((((List.range rows.length).take i).flatMap (clC rows) ++ ((nb rows i).take j).flatMap (clA rows i)) ++ ((bs rows i a).take l).flatMap (cl3 rows i a)))), some (.s (eN i)), some (.s (eN a)), c4, none]) ⟨rfl, c4, by simp [List.set]⟩ ?_ ?_
      · rintro l b ρ S' hl ⟨rfl, c4, rfl⟩
        have hb := R.lt i b (List.mem_filter.mp (List.mem_of_getElem? hl)).1
        refine ⟨_, rfl, ?_⟩
        generalize hacc : (((List.range rows.length).take i).flatMap (clC rows) ++ ((nb rows i).take j).flatMap (clA rows i)) ++ ((bs rows i a).take l).flatMap (cl3 rows i a) = acc
        have hz : acc.length ≤ 100000 := by
          have g1 := take_le (List.range rows.length) i (fun c => clC_len R c)
          have g2 := take_le (nb rows i) j (fun a => clA_len R i a)
          have g3 := take_le (bs rows i a) l (fun b => cl3_len R i a b)
          have g4 : (bs rows i a).length ≤ 12 := Nat.le_trans (List.length_filter_le _ _) (R.len i)
          have g5 := R.len i
          rw [List.length_range] at g1
          rw [← hacc, List.length_append, List.length_append]
          omega
        have hc := cl3_len R i a b
        refine wp_of_eq (d := Out.nx [some (.s (eRows rows)), some (.s (eL e4 (acc ++ cl3 rows i a b))), some (.s (eN i)), some (.s (eN a)), some (.s (eN b)), none]) (bind_of (a := eL e4 (acc ++ cl3 rows i a b)) (bind_of (a := eL e4 acc) rfl (bind_of (a := eL e4 (cl3 rows i a b)) (bind_of (a := (nb rows i).map eN) (bind_of (row_ix (a := i) rfl rfl hin) rfl) (bind_of (comp_pure eN (fun d => decide (b < d) && (!decide (d ∈ nb rows a) && !decide (d ∈ nb rows b))) (fun d => e4 (i, a, b, d)) fun d _ => ⟨_, rfl, and_ok (lt_row (a := b) (x := d) rfl rfl) (fun _ => and_ok (nin_row (a := a) (x := d) rfl rfl rfl ha) (fun _ => nin_row (a := b) (x := d) rfl rfl rfl hb)), fun _ => rfl⟩) ?_)) ?_)) rfl) ⟨rfl, some (.s (eN b)), ?_⟩
        · unfold cl3 eL
          rw [List.map_map]; rfl
        · rw [dAdd_L (by rw [sizeLine_eq]; omega)]; rfl
        · rw [flat_snoc (cl3 rows i a) (bs rows i a) l b hl, ← List.append_assoc, hacc]
      · rintro ρ S' ⟨rfl, c4, rfl⟩
        refine ⟨rfl, some (.s (eN a)), c4, ?_⟩
        rw [flat_snoc (clA rows i) (nb rows i) j a hj, ← List.append_assoc, List.take_of_length_le (Nat.le_refl _)]
        rfl
    · rintro ρ S' ⟨rfl, c3, c4, rfl⟩
      refine ⟨rfl, some (.s (eN i)), c3, c4, ?_⟩
      rw [flat_snoc (clC rows) (List.range rows.length) i i hi0, List.take_of_length_le (Nat.le_refl _)]
      rfl
  · rintro ρ S' ⟨rfl, c2, c3, c4, rfl⟩
    rw [List.take_of_length_le (Nat.le_refl _)]
    exact wp_of_eq (d := Out.rt (eL e4 (claws rows))) rfl (wp_of_eq (d := eL e4 (claws rows)) rfl ⟨rfl, rfl⟩)
end
end
end K20

namespace K20
open PySem PySem.Spec PyProof.Rows L2 L2.EV
noncomputable section
theorem hExtend_L {α : Type} {e : α → D} {xs ys : List α} (h : xs.length + ys.length ≤ sizeLine) : hExtend (eL e xs) [eL e ys] = some (eL e (xs ++ ys), .non) := by simp [hExtend, eL, h]
theorem enum_ix (L : Lot) : enumD (L.map eN) = (idx L).map fun p => .tup [eN p.1, eN p.2] := enum_idx eN L
theorem cut_from {α : Type} (xs : List α) (k : Nat) : cutG xs (some (k : Int)) none = xs.drop k := by
  have e := HT.sIx_nat xs.length 0 k
  unfold cutG
  rw [e, HT.sIx_none]
  by_cases c : k ≤ xs.length
  · rw [Nat.min_eq_left c]
    exact List.take_of_length_le (by rw [List.length_drop]; omega)
  · rw [Nat.min_eq_right (by omega), Nat.sub_self, List.take_zero, List.drop_eq_nil_of_le (by omega)]
/-- what is greater than a member of a rising row stands behind it -/
theorem drop_filter : ∀ (L : Lot) (i a : Nat), L.Pairwise (· < ·) → L[i]? = some a → L.filter (fun b => decide (a < b)) = L.drop (i + 1)
  | [], i, a, _, h => by simp at h
  | x :: L, 0, a, hp, h => by
    rw [List.pairwise_cons] at hp
    simp only [List.getElem?_cons_zero, Option.some.injEq] at h
    subst h
    rw [List.filter_cons_of_neg (by simp), List.filter_eq_self.mpr fun b hb => decide_eq_true (hp.1 b hb)]; rfl
  | x :: L, i + 1, a, hp, h => by
    rw [List.pairwise_cons] at hp
    rw [List.getElem?_cons_succ] at h
    have hx := hp.1 a (List.mem_of_getElem? h)
    rw [List.filter_cons_of_neg (by simp; omega), drop_filter L i a hp.2 h]; rfl
def clB (rows : Rows) (c a b : Nat) : List Q4 := if b ∈ nb rows a then [] else cl3 rows c a b
theorem clA_eq {rows : Rows} {c i a : Nat} (up : (nb rows c).Pairwise (· < ·)) (h : (nb rows c)[i]? = some a) : clA rows c a = ((nb rows c).drop (i + 1)).flatMap (clB rows c a) := by
  have e : bs rows c a = ((nb rows c).drop (i + 1)).filter fun b => !decide (b ∈ nb rows a) := by
    unfold bs
    rw [← drop_filter _ i a up h, List.filter_filter]
    exact List.filter_congr fun b _ => Bool.and_comm _ _
  unfold clA
  rw [e]
  generalize (nb rows c).drop (i + 1) = xs
  induction xs with
  | nil => rfl
  | cons x xs ih =>
    rw [List.flatMap_cons, List.filter_cons]
    unfold clB
    by_cases q : x ∈ nb rows a
    · rw [if_pos q, if_neg (by rw [decide_eq_true q]; exact Bool.false_ne_true)]
      exact ih
    · rw [if_neg q, if_pos (by rw [decide_eq_false q]; rfl), List.flatMap_cons]
      exact congrArg _ ih
section
variable {rows : Rows} (R : ROk rows)
include R
set_option maxHeartbeats 1000000 in
theorem m_claws_at_eq (c : Nat) (hc : c < rows.length) : m_claws_at [eRows rows, eN c] = pure (eL e4 (clC rows c)) := by
  have hn := R.n12
  have hL12 := R.len c
  have up := R.up c
  refine eq_pure fun S => ?_
  rw [un_claws_at, wp_bind]
  refine wp_bind.mpr (wp_of_eq (d := Out.nx [some (.s (eRows rows)), some (.s (eN c)), some (.o (eL e4 [])), some (.s (eL eN (nb rows c))), none, none, none, none, none]) (bind_of (a := [Cell.o (eL e4 []), .s (eL eN (nb rows c))]) (bind_of (a := eL e4 []) rfl (bind_of (a := [Cell.s (eL eN (nb rows c))]) (bind_of (row_ix (a := c) rfl rfl hc) rfl) rfl)) rfl) (wp_bind.mpr (wp_bind.mpr (wp_of_eq (d := (idx (nb rows c)).map fun p => .tup [eN p.1, eN p.2]) (bind_of (a := eL eN (nb rows c)) rfl (by show M.of (some (enumD ((nb rows c).map eN))) = _; rw [enum_ix]; rfl)) ?_))))
  refine wp_for (fun p : Nat × Nat => .tup [eN p.1, eN p.2]) (fun i ρ S' => S' = S ∧ ∃ c4 c5 c6 c7, ρ = [some (.s (eRows rows)), some (.s (eN c)), some (.o (eL e4 (((nb rows c).take i).flatMap (clA rows c)))), some (.s (eL eN (nb rows c))), c4, c5, c6, c7, none]) ⟨rfl, none, none, none, none, rfl⟩ ?_ ?_
  · rintro i p ρ S1 hi ⟨rfl, c4, c5, c6, c7, rfl⟩
    obtain ⟨a, rfl, ha0⟩ : ∃ a, p = (i, a) ∧ (nb rows c)[i]? = some a := by
      unfold idx at hi
      rw [List.getElem?_mapIdx] at hi
      cases q : (nb rows c)[i]? with
      | none => rw [q] at hi; cases hi
      | some a => rw [q] at hi; cases hi; exact ⟨a, rfl, rfl⟩
    have hil : i < (nb rows c).length := (List.getElem?_eq_some_iff.mp ha0).1
    have ha := R.lt c a (List.mem_of_getElem? ha0)
    refine ⟨_, rfl, wp_bind.mpr (wp_of_eq (d := (List.range' (i + 1) ((nb rows c).length - (i + 1))).map eN) (bind_of (a := [eN (i + 1), eN (nb rows c).length]) (bind_of (a := eN (i + 1)) (bind_of (a := eN i) rfl (bind_of (a := eN 1) rfl (by rw [dAdd_N]; rfl))) (bind_of (a := [eN (nb rows c).length]) (bind_of (a := eN (nb rows c).length) (bind_of (a := [eL eN (nb rows c)]) rfl (by rw [dLen_L]; rfl)) rfl) rfl)) (by rw [rng2_N _ _ (by omega) (by omega)]; rfl)) ?_)⟩
    refine wp_for eN (fun k ρ S' => S' = S1 ∧ ∃ c6 c7, ρ = [some (.s (eRows rows)), some (.s (eN c)), some (.o (eL e4 (((nb rows c).take i).flatMap (clA rows c) ++ (((nb rows c).drop (i + 1)).take k).flatMap (clB rows c a)))), some (.s (eL eN (nb rows c))), some (.s (eN i)), some (.s (eN a)), c6, c7, none]) ⟨rfl, c6, c7, by simp [List.set]⟩ ?_ ?_
    · rintro k j ρ S2 hk ⟨rfl, c6, c7, rfl⟩
      obtain ⟨hk1, rfl⟩ := range2_get hk
      have hjl : i + 1 + k < (nb rows c).length := by omega
      obtain ⟨b, hb0⟩ : ∃ b, (nb rows c)[i + 1 + k]? = some b := ⟨_, List.getElem?_eq_getElem hjl⟩
      have hbd : ((nb rows c).drop (i + 1))[k]? = some b := by rw [List.getElem?_drop]; exact hb0
      have hb := R.lt c b (List.mem_of_getElem? hb0)
      refine ⟨_, rfl, wp_bind.mpr (wp_of_eq (d := Out.nx [some (.s (eRows rows)), some (.s (eN c)), some (.o (eL e4 (((nb rows c).take i).flatMap (clA rows c) ++ (((nb rows c).drop (i + 1)).take k).flatMap (clB rows c a)))), some (.s (eL eN (nb rows c))), some (.s (eN i)), some (.s (eN a)), some (.s (eN (i + 1 + k))), some (.s (eN b)), none]) (bind_of (a := eN b) (bind_of (a := eL eN (nb rows c)) rfl (bind_of (a := eN (i + 1 + k)) rfl (by rw [dIx_L (e := eN) (i + 1 + k) hb0]; rfl))) rfl) ?_)⟩
      generalize hacc : ((nb rows c).take i).flatMap (clA rows c) ++ (((nb rows c).drop (i + 1)).take k).flatMap (clB rows c a) = acc
      have hz : acc.length ≤ 100000 := by
        have g1 := take_le (nb rows c) i (fun a => clA_len R c a)
        have g2 := take_le (B := 12) ((nb rows c).drop (i + 1)) k (fun b => show (clB rows c a b).length ≤ 12 by
          unfold clB
          split
          · simp
          · exact cl3_len R c a b)
        have g3 : ((nb rows c).drop (i + 1)).length ≤ 12 := by rw [List.length_drop]; omega
        rw [← hacc, List.length_append]
        omega
      have e1 := nin_row (i := 0) (j := 5) (k := 7) (a := a) (x := b) (ρ := [some (.s (eRows rows)), some (.s (eN c)), some (.o (eL e4 acc)), some (.s (eL eN (nb rows c))), some (.s (eN i)), some (.s (eN a)), some (.s (eN (i + 1 + k))), some (.s (eN b)), none]) rfl rfl rfl ha
      have go : ((nb rows c).take i).flatMap (clA rows c) ++ (((nb rows c).drop (i + 1)).take (k + 1)).flatMap (clB rows c a) = acc ++ clB rows c a b := by
        rw [flat_snoc (clB rows c a) ((nb rows c).drop (i + 1)) k b hbd, ← List.append_assoc, hacc]
      refine wp_bind.mpr (wp_of_eq e1 ?_)
      by_cases q : b ∈ nb rows a
      · rw [decide_eq_true q]
        refine wp_of_eq (d := Out.nx _) rfl ⟨rfl, some (.s (eN (i + 1 + k))), some (.s (eN b)), ?_⟩
        rw [go, show clB rows c a b = [] from if_pos q, List.append_nil]
      · rw [decide_eq_false q]
        have hc3 := cl3_len R c a b
        have e2 : eLc [8] (iSeq (eSl (eVarI 3) (oSome (eBin dAdd (eVarI 6) (eC (.int 1)))) oNone)) (gN 8) ct_claws_at_1 ce_claws_at_1 [some (.s (eRows rows)), some (.s (eN c)), some (.o (eL e4 acc)), some (.s (eL eN (nb rows c))), some (.s (eN i)), some (.s (eN a)), some (.s (eN (i + 1 + k))), some (.s (eN b)), none] = pure (eL e4 (cl3 rows c a b)) := by
          have e3 : cl3 rows c a b = (((nb rows c).drop (i + 1 + k + 1)).filter fun d => !decide (d ∈ nb rows a) && !decide (d ∈ nb rows b)).map fun d => (c, a, b, d) := by
            unfold cl3
            rw [← drop_filter _ (i + 1 + k) b up hb0, List.filter_filter]
            exact congrArg _ (List.filter_congr fun d _ => Bool.and_comm _ _)
          refine bind_of (a := ((nb rows c).drop (i + 1 + k + 1)).map eN) (bind_of (a := eL eN ((nb rows c).drop (i + 1 + k + 1))) (bind_of (a := eL eN (nb rows c)) rfl (bind_of (a := some ((i + 1 + k + 1 : Nat) : Int)) (bind_of (a := eN (i + 1 + k + 1)) (bind_of (a := eN (i + 1 + k)) rfl (bind_of (a := eN 1) rfl (by rw [dAdd_N]; rfl))) rfl) (bind_of (a := none) rfl ?_))) rfl) (bind_of (comp_pure eN (fun d => !decide (d ∈ nb rows a) && !decide (d ∈ nb rows b)) (fun d => e4 (c, a, b, d)) fun d _ => ⟨_, rfl, and_ok (nin_row (a := a) (x := d) rfl rfl rfl ha) (fun _ => nin_row (a := b) (x := d) rfl rfl rfl hb), fun _ => rfl⟩) ?_)
          · show M.of (some (D.lst (cutG ((nb rows c).map eN) _ none))) = _
            rw [cut_from, ← List.map_drop]; rfl
          · rw [e3]
            unfold eL
            rw [List.map_map]; rfl
        refine wp_of_eq (d := Out.nx [some (.s (eRows rows)), some (.s (eN c)), some (.o (eL e4 (acc ++ cl3 rows c a b))), some (.s (eL eN (nb rows c))), some (.s (eN i)), some (.s (eN a)), some (.s (eN (i + 1 + k))), some (.s (eN b)), none]) (bind_of (a := [eL e4 (cl3 rows c a b)]) (bind_of e2 rfl) ?_) ⟨rfl, some (.s (eN (i + 1 + k))), some (.s (eN b)), ?_⟩
        · show M.of ((hExtend (eL e4 acc) [eL e4 (cl3 rows c a b)]).map _) = _
          rw [hExtend_L (by rw [sizeLine_eq]; omega)]; rfl
        · rw [go, show clB rows c a b = cl3 rows c a b from if_neg q]
    · rintro ρ S2 ⟨rfl, c6, c7, rfl⟩
      refine ⟨rfl, some (.s (eN i)), some (.s (eN a)), c6, c7, ?_⟩
      have ht : ((nb rows c).drop (i + 1)).take ((nb rows c).length - (i + 1)) = (nb rows c).drop (i + 1) := List.take_of_length_le (by rw [List.length_drop]; exact Nat.le_refl _)
      rw [flat_snoc (clA rows c) (nb rows c) i a ha0, clA_eq up ha0, List.length_range', ht]
  · rintro ρ S1 ⟨rfl, c4, c5, c6, c7, rfl⟩
    rw [idx_len, List.take_of_length_le (Nat.le_refl _)]
    exact wp_of_eq (d := Out.rt (eL e4 (clC rows c))) rfl (wp_of_eq (d := eL e4 (clC rows c)) rfl ⟨rfl, rfl⟩)
end
end
end K20

namespace K20
open PySem PySem.Spec PyProof.Rows L2 L2.EV
noncomputable section
/-! ### the rows of a web -/
section
variable {n : Nat} {ties : Ties} (w : WebOk n ties)
include w
theorem adj_lt {x y : Nat} (h : y ∈ adj ties x) : x < n ∧ y < n := by
  rcases mem_adj.mp h with h | h
  · have g : x < y ∧ y < n := w.lt _ h
    omega
  · have g : y < x ∧ x < n := w.lt _ h
    omega
theorem adj_nd (v : Nat) : (adj ties v).Nodup := by
  have hf : ∀ q ∈ ties, ∀ x, x ∈ (if q.1 = v then [q.2] else []) ++ (if q.2 = v then [q.1] else []) → (q = (v, x) ∧ v < x) ∨ (q = (x, v) ∧ x < v) := fun q hq x hx => by
    have hlt := (w.lt q hq).1
    rcases List.mem_append.mp hx with hx | hx
    · split at hx
      · rename_i c
        rw [List.mem_singleton] at hx
        exact .inl ⟨by rw [← c, hx], by omega⟩
      · exact nomatch hx
    · split at hx
      · rename_i c
        rw [List.mem_singleton] at hx
        exact .inr ⟨by rw [← c, hx], by omega⟩
      · exact nomatch hx
  unfold adj
  rw [List.Nodup, List.pairwise_flatMap]
  refine ⟨fun q hq => ?_, ?_⟩
  · have hlt := (w.lt q hq).1
    by_cases a : q.1 = v <;> by_cases b : q.2 = v <;> simp [a, b]
    omega
  · refine List.Pairwise.imp_of_mem (fun {p q} hp hq hne x hx y hy e => hne ?_) w.nd
    subst e
    rcases hf p hp x hx with ⟨h1, h2⟩ | ⟨h1, h2⟩ <;> rcases hf q hq x hy with ⟨h3, h4⟩ | ⟨h3, h4⟩
    · rw [h1, h3]
    · omega
    · omega
    · rw [h1, h3]
theorem row_adj (a : Nat) : nb (rowsA n ties) a = if a < n then srt (adj ties a) else [] := by
  have hl : ∀ q ∈ ties, q.1 < (List.replicate n ([] : Lot)).length ∧ q.2 < (List.replicate n ([] : Lot)).length := fun q hq => by
    rw [List.length_replicate]
    have := w.lt q hq
    omega
  show (rowsA n ties).getD a [] = _
  rw [List.getD_eq_getElem?_getD]
  unfold rowsA
  rw [List.getElem?_map]
  split
  · rename_i ha
    have h1 : a < (rowsA0 (List.replicate n []) ties).length := by rw [rowsA0_len, List.length_replicate]; exact ha
    have h2 := rowsA0_adj ties (List.replicate n []) a hl
    rw [List.getD_eq_getElem?_getD, List.getElem?_eq_getElem h1, show (List.replicate n ([] : Lot)).getD a [] = [] by rw [List.getD_eq_getElem?_getD, List.getElem?_replicate, if_pos ha]; rfl, List.nil_append] at h2
    rw [List.getElem?_eq_getElem h1]
    show srt _ = _
    rw [show (rowsA0 (List.replicate n []) ties)[a] = adj ties a from h2]
  · rename_i ha
    rw [List.getElem?_eq_none (by rw [rowsA0_len, List.length_replicate]; omega)]; rfl
theorem mem_row {a b : Nat} : b ∈ nb (rowsA n ties) a ↔ b ∈ adj ties a := by
  rw [row_adj w]
  split
  · exact mem_srt _ _
  · rename_i c
    constructor
    · intro h; exact nomatch h
    · intro h; exact absurd (adj_lt w h).1 c
theorem adj_sym {a b : Nat} (h : b ∈ adj ties a) : a ∈ adj ties b := mem_adj.mpr ((mem_adj.mp h).symm)
theorem rok : ROk (rowsA n ties) where
  n12 := by rw [rowsA_len]; exact w.n12
  len := fun c => by
    rw [row_adj w]
    split
    · unfold srt
      rw [List.length_mergeSort]
      exact Nat.le_trans (nd_le (adj_nd w c) fun x hx => (adj_lt w hx).2) w.n12
    · simp
  lt := fun c a h => by rw [rowsA_len]; exact (adj_lt w ((mem_row w).mp h)).2
  up := fun c => by
    rw [row_adj w]
    split
    · exact srt_lt (adj_nd w c)
    · exact List.Pairwise.nil
  sym := fun c a h => (mem_row w).mpr (adj_sym w ((mem_row w).mp h))
theorem m_nei : m_all_neighbours [eWeb n ties] = pure (eRows (rowsA n ties)) :=
  m_all_neighbours_eq n ties (by have := w.n12; omega) (fun p hp => by have := w.lt p hp; omega) (by have := w.sz; omega)
theorem m_near : m__law_near [eWeb n ties] = pure (eRows (rowsA n ties)) :=
  m__law_near_eq n ties (by have := w.n12; omega) (fun p hp => by have := w.lt p hp; omega) (by have := w.sz; omega)
end
/-! ### the least claw -/
def hd (xs : List Q4) : D := match xs with
  | [] => .non
  | q :: _ => e4 q
def told (xs : List Q4) : D := match xs with
  | [] => .tup [.str "free"]
  | q :: _ => .tup [.str "claw", eN q.1, eN q.2.1, eN q.2.2.1, eN q.2.2.2]
theorem good4 : Good e4 1 := by
  have : ∀ q : Q4, e4 q = eT eN [q.1, q.2.1, q.2.2.1, q.2.2.2] := fun q => rfl
  refine ⟨fun q => by rw [this]; exact (good_T good_N).py _, fun a b p q h1 h2 => ?_⟩
  rw [this] at h1 h2
  rw [(good_T good_N).eqv _ _ p q h1 h2]
  refine decide_eq_decide.mpr ⟨fun h => ?_, fun h => by rw [h]⟩
  simp only [List.cons.injEq, and_true] at h
  obtain ⟨a1, a2, a3, a4⟩ := a
  obtain ⟨b1, b2, b3, b4⟩ := b
  simp only at h
  obtain ⟨rfl, rfl, rfl, rfl⟩ := h
  rfl
theorem ne_nil4 (xs : List Q4) : dNe (eL e4 xs) (.lst []) = some (.bl (!decide (xs = []))) := dNe_good (good_L good4) (by omega) xs []
theorem flat_prefix {α β : Type} (f : α → List β) (xs : List α) (i : Nat) (x : α) (h : xs[i]? = some x) (h0 : (xs.take i).flatMap f = []) : ∃ zs, xs.flatMap f = f x ++ zs := by
  refine ⟨(xs.drop (i + 1)).flatMap f, ?_⟩
  conv => lhs; rw [← List.take_append_drop (i + 1) xs]
  rw [List.flatMap_append, flat_snoc f xs i x h, h0, List.nil_append]
section
variable {n : Nat} {ties : Ties} (w : WebOk n ties)
include w
theorem m_first_claw_eq : m_first_claw [eWeb n ties] = pure (hd (claws (rowsA n ties))) := by
  have hn := w.n12
  have R := rok w
  have hl := rowsA_len n ties
  refine eq_pure fun S => ?_
  rw [un_first_claw, wp_bind]
  refine wp_bind.mpr (wp_of_eq (d := Out.nx [some (.s (eWeb n ties)), some (.s (eRows (rowsA n ties))), none, none]) (bind_of (a := eRows (rowsA n ties)) (bind_of (a := [eWeb n ties]) rfl (m_nei w)) rfl) (wp_bind.mpr (wp_bind.mpr (wp_of_eq (d := (List.range n).map eN) (bind_of (a := [eN n]) rfl (by rw [rng1_N _ (by omega)]; rfl)) ?_))))
  refine wp_for eN (fun i ρ S' => S' = S ∧ ((List.range n).take i).flatMap (clC (rowsA n ties)) = [] ∧ ∃ c2 c3, ρ = [some (.s (eWeb n ties)), some (.s (eRows (rowsA n ties))), c2, c3]) ⟨rfl, rfl, none, none, rfl⟩ ?_ ?_
  · rintro i c ρ S1 hi ⟨rfl, h0, c2, c3, rfl⟩
    have hi0 := hi
    obtain ⟨hin, rfl⟩ := range_get hi
    refine ⟨_, rfl, wp_bind.mpr (wp_of_eq (d := Out.nx [some (.s (eWeb n ties)), some (.s (eRows (rowsA n ties))), some (.s (eN i)), some (.s (eL e4 (clC (rowsA n ties) i)))]) (bind_of (a := eL e4 (clC (rowsA n ties) i)) (bind_of (a := [eRows (rowsA n ties), eN i]) rfl (m_claws_at_eq R i (by omega))) rfl) ?_)⟩
    refine wp_bind.mpr (wp_of_eq (d := !decide (clC (rowsA n ties) i = [])) (bind_of (a := .bl (!decide (clC (rowsA n ties) i = []))) (bind_of (a := eL e4 (clC (rowsA n ties) i)) rfl (bind_of (a := .lst []) rfl (by rw [ne_nil4]; rfl))) rfl) ?_)
    by_cases q : clC (rowsA n ties) i = []
    · rw [decide_eq_true q]
      refine wp_of_eq (d := Out.nx _) rfl ⟨rfl, ?_, some (.s (eN i)), some (.s (eL e4 (clC (rowsA n ties) i))), rfl⟩
      rw [flat_snoc (clC (rowsA n ties)) (List.range n) i i hi0, h0, q]; rfl
    · rw [decide_eq_false q]
      obtain ⟨zs, hz⟩ := flat_prefix (clC (rowsA n ties)) (List.range n) i i hi0 h0
      cases e : clC (rowsA n ties) i with
      | nil => exact absurd e q
      | cons x xs =>
        rw [e] at hz
        refine wp_of_eq (d := Out.rt (e4 x)) (bind_of (a := e4 x) (bind_of (a := eL e4 (x :: xs)) rfl (bind_of (a := eN 0) rfl (by rw [show dIx (eL e4 (x :: xs)) (eN 0) = _ from dIx_L (e := e4) 0 rfl]; rfl))) rfl) (wp_of_eq (d := Out.rt (e4 x)) rfl (wp_of_eq (d := e4 x) rfl ⟨?_, rfl⟩))
        unfold claws
        rw [hl, hz]; rfl
  · rintro ρ S1 ⟨rfl, h0, c2, c3, rfl⟩
    rw [List.take_of_length_le (Nat.le_refl _)] at h0
    refine wp_of_eq (d := Out.rt .non) rfl (wp_of_eq (d := .non) rfl ⟨?_, rfl⟩)
    unfold claws
    rw [hl, h0]; rfl
theorem m_claw_paper_eq : m_claw_paper [eWeb n ties] = pure (told (claws (rowsA n ties))) := by
  rw [un_claw_paper]
  refine bind_of (a := Out.rt (told (claws (rowsA n ties)))) (bind_of (a := Out.nx [some (.s (eWeb n ties)), some (.s (hd (claws (rowsA n ties))))]) (bind_of (a := hd (claws (rowsA n ties))) (bind_of (a := [eWeb n ties]) rfl (m_first_claw_eq w)) rfl) ?_) rfl
  cases claws (rowsA n ties) with
  | nil => rfl
  | cons q qs =>
    refine bind_of (a := told (q :: qs)) (bind_of (a := true) rfl (bind_of (a := [.str "claw", eN q.1, eN q.2.1, eN q.2.2.1, eN q.2.2.2]) rfl ?_)) rfl
    rw [if_pos (by rw [sizeLine_eq]; simp)]; rfl
end
end
end K20

namespace K20
open PySem PySem.Spec PyProof.Rows L2 L2.EV
noncomputable section
theorem sh_str {s : Str} (h : PyData.strOk s = true) (hz : s.cps.size ≤ 41) : Sh (.str s) 0 41 := ⟨.str s, by simp [D.py], by simp [PyData.canLay0, h], by simp [PyData.depth], by simp [PyData.showable], by rw [PyData.intsShort], by simp only [PyData.weight]; exact hz⟩
theorem sh_w1 {s : Str} (h : PyData.strOk s = true) (hz : s.cps.size ≤ 41) : Sh (.tup [.str s]) 1 200 := sh_tup (k := 0) (w := 41) (fun d hd => by rw [List.mem_singleton] at hd; subst hd; exact sh_str h hz) (by simp)
theorem cut_take {α : Type} (xs : List α) (k : Nat) : cutG xs none (some (k : Int)) = xs.take k := by
  unfold cutG
  rw [HT.sIx_none, HT.sIx_nat, List.drop_zero, Nat.sub_zero]
  by_cases c : k ≤ xs.length
  · rw [Nat.min_eq_left c]
  · rw [Nat.min_eq_right (by omega), List.take_of_length_le (by omega), List.take_of_length_le (by omega)]
/-! ### texts of values, empty dicts among them -/
structure ShT (d : EV.D) (k w : Nat) : Prop where
  ex : ∃ p, D.pyT d = some p ∧ p.leavesShort 13 = true ∧ p.depth ≤ k ∧ p.showable = true ∧ p.weight ≤ w
theorem shT_int {i : Int} (h : i.natAbs < 10 ^ 12) : ShT (.int i) 0 41 := by
  obtain ⟨p, a1, a2, a3, a4, a5, a6⟩ := (sh_int h).ex
  simp only [D.py, Option.some.injEq] at a1
  subst a1
  exact ⟨.int i, by simp [D.pyT], PyData.leavesShort_of_canLay0 13 _ a2 a5, a3, a4, a6⟩
theorem shT_N {n : Nat} (h : n < 10 ^ 12) : ShT (eN n) 0 41 := shT_int (by omega)
theorem shT_str {s : Str} (h : PyData.strOk s = true) (hz : s.cps.size ≤ 41) : ShT (.str s) 0 41 := by
  obtain ⟨p, a1, a2, a3, a4, a5, a6⟩ := (sh_str h hz).ex
  simp only [D.py, Option.some.injEq] at a1
  subst a1
  exact ⟨.str s, by simp [D.pyT], PyData.leavesShort_of_canLay0 13 _ a2 a5, a3, a4, a6⟩
theorem shT_d : ShT (.dct false []) 1 41 := ⟨.dict [], by simp [D.pyT], by decide +kernel, by decide +kernel, by decide +kernel, by decide +kernel⟩
theorem ShT.mono {d : EV.D} {k w k' w' : Nat} (h : ShT d k w) (hk : k ≤ k') (hw : w ≤ w') : ShT d k' w' := let ⟨p, a1, a2, a3, a4, a5⟩ := h.ex; ⟨p, a1, a2, by omega, a4, by omega⟩
theorem shT_all {k w : Nat} : ∀ {ds : List EV.D}, (∀ d ∈ ds, ShT d k w) → ∃ ps, pyTs ds = some ps ∧ PyData.leavesShortAll 13 ps = true ∧ PyData.depthAll ps ≤ k ∧ PyData.showableAll ps = true ∧ PyData.weightAll ps ≤ ds.length * (w + 1)
  | [], _ => ⟨[], by simp [pyTs], by rw [PyData.leavesShortAll], by simp [PyData.depthAll], by simp [PyData.showableAll], by simp [PyData.weightAll]⟩
  | d :: ds, h => by
    obtain ⟨p, a1, a2, a3, a4, a6⟩ := (h d List.mem_cons_self).ex
    obtain ⟨ps, b1, b2, b3, b4, b6⟩ := shT_all fun x hx => h x (List.mem_cons_of_mem _ hx)
    refine ⟨p :: ps, by simp [pyTs, a1, b1], by rw [PyData.leavesShortAll, a2, b2]; rfl, by simp only [PyData.depthAll]; omega, by simp [PyData.showableAll, a4, b4], ?_⟩
    simp only [PyData.weightAll, List.length_cons]
    rw [Nat.add_mul]
    omega
theorem shT_tup {k w n : Nat} {ds : List EV.D} (h : ∀ d ∈ ds, ShT d k w) (hn : ds.length * (w + 1) ≤ n) : ShT (.tup ds) (k + 1) n := by
  obtain ⟨ps, b1, b2, b3, b4, b6⟩ := shT_all h
  exact ⟨.tuple ps, by simp [D.pyT, b1], by rw [PyData.leavesShort]; exact b2, by simp only [PyData.depth]; omega, by simp [PyData.showable, b4], by simp only [PyData.weight]; omega⟩
theorem reprX_sh {d : EV.D} {k w : Nat} (h : Sh d k w) (hk : k ≤ 64 := by omega) (hw : w ≤ 1048576 := by omega) : ∃ s, dReprX [d] = some (.str s) := ⟨_, dReprX_of (dRepr_sh h hk hw)⟩
theorem reprX_shT {d : EV.D} {k w : Nat} (h : ShT d k w) (hk : k ≤ 64 := by omega) (hw : w ≤ 10000 := by omega) : ∃ s, dReprX [d] = some (.str s) := by
  obtain ⟨p, a1, a2, a3, a4, a5⟩ := h.ex
  cases e : dRepr [d] with
  | some x =>
    have e2 := e
    unfold dRepr at e2
    simp only at e2
    split at e2
    · split at e2
      · cases e2
        exact ⟨_, dReprX_of e⟩
      · cases e2
    · cases e2
  | none =>
    refine ⟨p.shown, ?_⟩
    have z : p.shown.length ≤ sizeLine := by
      have := PyData.shown_le 13 (by decide) p a2
      rw [sizeLine_eq]
      omega
    have d64 : p.depth ≤ 64 := by omega
    show (match dRepr [d] with | some d => some d | none => dReprT [d]) = _
    rw [e]
    show (match D.pyT d with | some p => if p.showable && decide (p.depth ≤ 64) && decide (p.shown.length ≤ sizeLine) then some (D.str p.shown) else none | none => none) = _
    rw [a1]
    simp [a4, d64, z]
end
end K20

namespace K20
open PySem PySem.Spec PyProof.Rows L2 L2.EV
noncomputable section
/-! ### faults -/
abbrev rForm : EV.D := .tup [.str "form"]
theorem no_if {f g : Ev → M Out} {b : Ev → M Bool} {ρ : Ev} {r : M Out} (h : b ρ = pure false) (k : g ρ = r) : sIf b f g ρ = r := bind_of h k
theorem yes_if {f g : Ev → M Out} {b : Ev → M Bool} {ρ : Ev} {r : M Out} (h : b ρ = pure true) (k : f ρ = r) : sIf b f g ρ = r := bind_of h k
theorem seq_rt {f g : Ev → M Out} {ρ : Ev} {r : EV.D} (h : f ρ = pure (.rt r)) : sSeq f g ρ = pure (.rt r) := bind_of h rfl
theorem seq_nx {f g : Ev → M Out} {ρ ρ' : Ev} {r : M Out} (h : f ρ = pure (.nx ρ')) (k : g ρ' = r) : sSeq f g ρ = r := bind_of h k
theorem or_t {f g : Ev → M Bool} {ρ : Ev} (h : f ρ = pure true) : bOr f g ρ = pure true := bind_of h rfl
theorem or_f {f g : Ev → M Bool} {ρ : Ev} {b : Bool} (h : f ρ = pure false) (k : g ρ = pure b) : bOr f g ρ = pure b := bind_of h k
theorem not_b {f : Ev → M Bool} {ρ : Ev} {b : Bool} (h : f ρ = pure b) : bNot f ρ = pure (!b) := bind_of h rfl
theorem isi_b {f : Ev → M EV.D} {ρ : Ev} {T t : String} {x : EV.D} (hf : f ρ = pure x) (h : tyNameX x = some t) : bOf (eIsiX T f) ρ = pure (isaT t T) :=
  bind_of (a := .bl (isaT t T)) (bind_of hf (by rw [h]; rfl)) rfl
theorem isi_e {f : Ev → M EV.D} {ρ : Ev} {T t : String} {x : EV.D} (hf : f ρ = pure x) (h : tyNameX x = some t) : eIsiX T f ρ = pure (.bl (isaT t T)) :=
  bind_of hf (by rw [h]; rfl)
theorem var_i {ρ : Ev} {i : Nat} {x : EV.D} (h : ρ[i]? = some (some (.s x))) : eVarI i ρ = pure x := by unfold eVarI; rw [h]; rfl
theorem len_ne {ρ : Ev} {i : Nat} {ds : List EV.D} (k : Nat) (h : ρ[i]? = some (some (.s (.tup ds)))) : bOf (eBin dNeX (eCall dLen (aCons (eVarI i) aNil)) (eC (.int k))) ρ = pure (!decide (ds.length = k)) :=
  bind_of (a := .bl (!decide (ds.length = k))) (bind_of (a := eN ds.length) (bind_of (a := [.tup ds]) (bind_of (var_i h) rfl) rfl) (bind_of (a := eN k) rfl (by rw [dNeX_of (dNe_good good_N (by omega) ds.length k)]; rfl))) rfl
theorem ne_lst (xs : List EV.D) : dNeX (.lst xs) (.lst []) = some (.bl (!xs.isEmpty)) := by
  cases xs with
  | nil => exact dNeX_of (dNe_good (good_L good_N) (by omega) [] [])
  | cons x xs =>
    unfold dNeX dEqvX
    cases e : dEqv (.lst (x :: xs)) (.lst []) with
    | none => rfl
    | some b =>
      obtain ⟨p, q, h1, h2, _, _, h⟩ := dEqv_eq e
      simp only [D.py, pyAll] at h1 h2
      cases e1 : D.py x with
      | none => rw [e1] at h1; cases h1
      | some p1 =>
        cases e2 : pyAll xs with
        | none => rw [e1, e2] at h1; cases h1
        | some ps =>
          rw [e1, e2] at h1
          cases h1
          cases h2
          rw [h]; rfl
def badX (n : Nat) : EV.D → Bool
  | .int i => !(decide (0 ≤ i) && decide (i < n))
  | _ => true
section
variable {n : Nat} {ties : Ties}
theorem ct1 {x : EV.D} {T : String} (hT : tyNameX x = some T) {ρ : Ev} (h0 : ρ[0]? = some (some (.s (eWeb n ties)))) (h1 : ρ[10]? = some (some (.s x))) : ct__law_fault_1 ρ = pure (badX n x) := by
  have v := var_i h1
  have other : isaT T "int" = false → ct__law_fault_1 ρ = pure true := fun h => or_t (not_b (isi_b (T := "int") v (by rw [hT])) |>.trans (by rw [h]; rfl))
  cases x with
  | int i =>
    cases hT
    refine or_f (not_b (isi_b (T := "int") (t := "int") v rfl)) (or_f (isi_b (T := "bool") (t := "int") v rfl) ?_)
    refine not_b (bind_of (a := .bl (decide (0 ≤ i) && decide (i < n))) ?_ rfl)
    refine bind_of (a := .int 0) rfl (bind_of v (bind_of (a := decide (0 ≤ i)) (bind_of (a := .bl (decide (0 ≤ i))) rfl rfl) ?_))
    cases decide (0 ≤ i) with
    | false => rfl
    | true => exact bind_of (a := eN n) (bind_of (var_i h0) rfl) rfl
  | bl b =>
    cases hT
    exact or_f (not_b (isi_b (T := "int") (t := "bool") v rfl)) (or_t (isi_b (T := "bool") (t := "bool") v rfl))
  | dct b kds =>
    cases b with
    | true => cases hT
    | false => cases hT; exact other rfl
  | src => cases hT
  | _ => cases hT; exact other rfl
def isN : EV.D → Bool
  | .int i => decide (0 ≤ i)
  | _ => false
theorem m_is_number_eq {x : EV.D} {T : String} (hT : tyNameX x = some T) : m_is_number [x] = pure (.bl (isN x)) := by
  rw [un_is_number]
  refine bind_of (a := Out.rt (.bl (isN x))) (bind_of (a := .bl (isN x)) ?_ rfl) rfl
  have v : eVarI 0 [some (.s x)] = pure x := rfl
  have other : isaT T "int" = false → eAnd (eIsiX "int" (eVarI 0)) (eAnd (eNot (eIsiX "bool" (eVarI 0))) (eBin dGe (eVarI 0) (eC (.int 0)))) [some (.s x)] = pure (.bl false) := fun h => bind_of (a := false) (bind_of (isi_e (T := "int") v hT) (by rw [h]; rfl)) rfl
  cases x with
  | int i =>
    cases hT
    exact bind_of (a := true) (bind_of (isi_e (T := "int") (t := "int") v rfl) rfl) (bind_of (a := true) (bind_of (a := .bl true) (bind_of (a := false) (bind_of (isi_e (T := "bool") (t := "int") v rfl) rfl) rfl) rfl) rfl)
  | bl b =>
    cases hT
    exact bind_of (a := true) (bind_of (isi_e (T := "int") (t := "bool") v rfl) rfl) (bind_of (a := false) (bind_of (a := .bl false) (bind_of (a := true) (bind_of (isi_e (T := "bool") (t := "bool") v rfl) rfl) rfl) rfl) rfl)
  | dct b kds =>
    cases b with
    | true => cases hT
    | false => cases hT; exact other rfl
  | src => cases hT
  | _ => cases hT; exact other rfl
theorem dAll_any (t : EV.D → Bool) (xs : List EV.D) : dAll [.lst (xs.map fun x => EV.D.bl (t x))] = some (.bl (xs.all t)) := dAll_map t xs
theorem m_are_places_eq (xs : List EV.D) (h : ∀ x ∈ xs, ∃ T, tyNameX x = some T) : m_are_places_of [eWeb n ties, .tup xs] = pure (.bl (xs.all fun x => !badX n x)) := by
  rw [un_are_places_of]
  refine bind_of (a := Out.rt (.bl (xs.all fun x => !badX n x))) (bind_of (a := .bl (xs.all fun x => !badX n x)) (bind_of (a := [.lst (xs.map fun x => EV.D.bl (!badX n x))]) (bind_of (a := .lst (xs.map fun x => EV.D.bl (!badX n x))) (bind_of (a := xs) rfl ?_) rfl) (by rw [dAll_any]; rfl)) rfl) rfl
  have := comp_map (xs := xs) (g := gN 2) (fe := ce_are_places_of_1) (ρ := wipeE [some (.s (eWeb n ties)), some (.s (.tup xs)), none] [2]) id (fun x => EV.D.bl (!badX n x)) fun x hx => ⟨_, rfl, ?_⟩
  · rw [List.map_id] at this
    exact bind_of this rfl
  · obtain ⟨T, hT⟩ := h x hx
    refine bind_of (a := isN x) (bind_of (a := .bl (isN x)) (bind_of (a := [x]) rfl (m_is_number_eq hT)) rfl) ?_
    cases x with
    | int i =>
      show (if decide (0 ≤ i) = true then _ else _) = _
      show _ = pure (EV.D.bl (!!(decide (0 ≤ i) && decide (i < n))))
      cases decide (0 ≤ i) with
      | false => rfl
      | true => exact (if_pos rfl).trans (bind_of (a := .int i) rfl (bind_of (a := eN n) rfl (by rw [Bool.not_not]; rfl)))
    | _ => rfl
end
end
end K20

namespace K20
open PySem PySem.Spec PyProof.Rows L2 L2.EV
noncomputable section
theorem ix_tup {xs : List EV.D} (i : Nat) {x : EV.D} (h : xs[i]? = some x) : dIx (.tup xs) (eN i) = some x := by
  have := dIx_T (e := (id : EV.D → EV.D)) i h
  unfold eT at this
  rwa [List.map_id] at this
theorem add_tup {xs ys : List EV.D} (h : xs.length + ys.length ≤ sizeLine) : dAdd (.tup xs) (.tup ys) = some (.tup (xs ++ ys)) := by simp [dAdd, h]
abbrev T2 : EV.D := .tup [.str "('claw',)", .str "('free',)"]
theorem shs (s : Str) (h : PyData.strOk s = true) : SeqAt.shaped (PyData.str s) = true := by simp [SeqAt.shaped, PyData.canLay0, PyData.depth, h]
theorem sh2 : SeqAt.shaped (PyData.list [PyData.str "('claw',)", PyData.str "('free',)"]) = true := by simp [SeqAt.shaped, PyData.canLay0, PyData.canLayAll0, PyData.depth, PyData.depthAll]; decide +kernel
theorem kinds (s : Str) (h : PyData.strOk s = true) : dNotIn (.str s) T2 = some (.bl (!(PyData.eqv (.str "('claw',)") (.str s) || (PyData.eqv (.str "('free',)") (.str s) || false)))) := by
  show (memD (.str s) [.str "('claw',)", .str "('free',)"]).map (fun b => D.bl (!b)) = _
  have e : memD (.str s) [.str "('claw',)", .str "('free',)"] = (if SeqAt.shaped (PyData.str s) && SeqAt.shaped (PyData.list [PyData.str "('claw',)", PyData.str "('free',)"]) then some ([PyData.str "('claw',)", PyData.str "('free',)"].any fun z => PyData.eqv z (.str s)) else none) := rfl
  rw [e, sh2, shs s h]; rfl
theorem kind_c : dNotIn (.str "('claw',)") T2 = some (.bl false) := (kinds "('claw',)" (by decide +kernel)).trans rfl
theorem kind_f : dNotIn (.str "('free',)") T2 = some (.bl false) := (kinds "('free',)" (by decide +kernel)).trans rfl
theorem rep_c : dReprX [.tup [.str "claw"]] = some (.str "('claw',)") := by
  rw [dReprX_of (dRepr_sh (sh_w1 (s := "claw") (by decide +kernel) (by decide +kernel)))]
  exact congrArg (fun s => some (EV.D.str s)) (by decide +kernel)
theorem rep_f : dReprX [.tup [.str "free"]] = some (.str "('free',)") := by
  rw [dReprX_of (dRepr_sh (sh_w1 (s := "free") (by decide +kernel) (by decide +kernel)))]
  exact congrArg (fun s => some (EV.D.str s)) (by decide +kernel)
/-- the first part of the value's text is none of the two -/
def badHead (ds : List EV.D) : Bool := match dReprX [.tup (ds.take 1)] with
  | some d => match dNotIn d T2 with
    | some (.bl b) => b
    | _ => false
  | none => false
section
variable {n : Nat} {ties : Ties} {rows : Rows}
abbrev EL (n : Nat) (ties : Ties) (rows : Rows) (v : EV.D) (c3 c4 c5 c6 c7 c8 c9 c10 c11 : Option Cell) : Ev := [some (.s (eWeb n ties)), some (.s (eRows rows)), some (.s v), c3, c4, c5, c6, c7, c8, c9, c10, c11]
abbrev EL0 (n : Nat) (ties : Ties) (rows : Rows) (v : EV.D) : Ev := EL n ties rows v none none none none none none none none none
theorem L_nt {v : EV.D} {T : String} (h : tyNameX v = some T) (hT : isaT T "tuple" = false) : m__law_fault [eWeb n ties, eRows rows, v] = pure rForm := by
  rw [un__law_fault]
  refine bind_of (a := Out.rt rForm) (seq_rt (yes_if (or_t ((not_b (isi_b (T := "tuple") (x := v) rfl h)).trans (by rw [hT]; rfl))) rfl)) rfl
theorem slice1 {ds : List EV.D} {ρ : Ev} (h : ρ[2]? = some (some (.s (.tup ds)))) : eSl (eVarI 2) oNone (oSome (eC (.int 1))) ρ = pure (.tup (ds.take 1)) :=
  bind_of (var_i h) (bind_of (a := none) rfl (bind_of (a := some (1 : Int)) rfl (by show M.of (some (EV.D.tup (cutG ds none (some ((1 : Nat) : Int))))) = _; rw [cut_take]; rfl)))
theorem head_b {ds : List EV.D} {s : Str} {b : Bool} {ρ : Ev} (h : ρ[2]? = some (some (.s (.tup ds)))) (hr : dReprX [.tup (ds.take 1)] = some (.str s)) (hs : dNotIn (.str s) T2 = some (.bl b)) :
    bOr (bNot (bOf (eIsiX "tuple" (eVarI 2)))) (bOf (eBin dNotIn (eCall dReprX (aCons (eSl (eVarI 2) oNone (oSome (eC (.int 1)))) aNil)) (eTup (aCons (eC (.str "('claw',)")) (aCons (eC (.str "('free',)")) aNil))))) ρ = pure b :=
  or_f (not_b (isi_b (T := "tuple") (t := "tuple") (var_i h) rfl)) (bind_of (a := .bl b) (bind_of (a := .str s) (bind_of (a := [.tup (ds.take 1)]) (bind_of (slice1 h) rfl) (by rw [hr]; rfl)) (bind_of (a := T2) rfl (by rw [hs]; rfl))) rfl)
theorem L_bad {ds : List EV.D} (hb : badHead ds = true) : m__law_fault [eWeb n ties, eRows rows, .tup ds] = pure rForm := by
  unfold badHead at hb
  cases e : dReprX [.tup (ds.take 1)] with
  | none => rw [e] at hb; cases hb
  | some d =>
    rw [e] at hb
    simp only at hb
    cases e2 : dNotIn d T2 with
    | none => rw [e2] at hb; cases hb
    | some x =>
      rw [e2] at hb
      cases x with
      | bl b =>
        simp only at hb
        subst hb
        rw [un__law_fault]
        refine bind_of (a := Out.rt rForm) (seq_rt (yes_if (or_f (not_b (isi_b (T := "tuple") (t := "tuple") rfl rfl)) (bind_of (a := .bl true) (bind_of (a := d) (bind_of (a := [.tup (ds.take 1)]) (bind_of (slice1 rfl) rfl) (by rw [e]; rfl)) (bind_of (a := T2) rfl (by rw [e2]; rfl))) rfl)) rfl)) rfl
      | _ => cases hb
theorem L_open {ds : List EV.D} {s : Str} {r : EV.D} (hr : dReprX [.tup (ds.take 1)] = some (.str s)) (hs : dNotIn (.str s) T2 = some (.bl false)) (k : tl__law_fault_3 (EL0 n ties rows (.tup ds)) = pure (.rt r)) : m__law_fault [eWeb n ties, eRows rows, .tup ds] = pure r := by
  rw [un__law_fault]
  exact bind_of (a := Out.rt r) (seq_nx (no_if (head_b (ds := ds) rfl hr hs) rfl) k) rfl
theorem hd_eqS {ρ : Ev} {i : Nat} {t u : Str} {ds : List EV.D} {b : Bool} (h : ρ[i]? = some (some (.s (.tup (.str t :: ds))))) (hb : dEqS (.str t) (.str u) = some (.bl b)) : bOf (eBin dEqS (eBin dIx (eVarI i) (eC (.int 0))) (eC (.str u))) ρ = pure b :=
  bind_of (a := .bl b) (bind_of (a := .str t) (bind_of (var_i h) (bind_of (a := eN 0) rfl (by rw [ix_tup 0 rfl]; rfl))) (bind_of (a := .str u) rfl (by rw [hb]; rfl))) rfl
theorem hd_neS {ρ : Ev} {i : Nat} {t u : Str} {ds : List EV.D} {b : Bool} (h : ρ[i]? = some (some (.s (.tup (.str t :: ds))))) (hb : dNeS (.str t) (.str u) = some (.bl b)) : bOf (eBin dNeS (eBin dIx (eVarI i) (eC (.int 0))) (eC (.str u))) ρ = pure b :=
  bind_of (a := .bl b) (bind_of (a := .str t) (bind_of (var_i h) (bind_of (a := eN 0) rfl (by rw [ix_tup 0 rfl]; rfl))) (bind_of (a := .str u) rfl (by rw [hb]; rfl))) rfl
def fr (xs : List Q4) : EV.D := match xs with
  | [] => .non
  | q :: _ => .tup [.str "claw", eN q.1, eN q.2.1, eN q.2.2.1, eN q.2.2.2]
theorem ne_nil4X (xs : List Q4) : dNeX (eL e4 xs) (.lst []) = some (.bl (!decide (xs = []))) := dNeX_of (ne_nil4 xs)
theorem L_free (R : ROk rows) : m__law_fault [eWeb n ties, eRows rows, .tup [.str "free"]] = pure (fr (claws rows)) := by
  refine L_open rep_f kind_f (seq_rt (yes_if (hd_eqS (t := "free") rfl rfl) ?_))
  refine seq_nx (ρ' := EL n ties rows (.tup [.str "free"]) none none (some (.s (eL e4 (claws rows)))) none none none none none none) (bind_of (a := eL e4 (claws rows)) (bind_of (a := [eRows rows]) rfl (m__law_claws_eq R)) rfl) ?_
  refine bind_of (a := fr (claws rows)) (bind_of (a := false) (len_ne (ds := [.str "free"]) 1 rfl) (bind_of (a := !decide (claws rows = [])) (bind_of (a := .bl (!decide (claws rows = []))) (bind_of (a := eL e4 (claws rows)) rfl (bind_of (a := .lst []) rfl (by rw [ne_nil4X]; rfl))) rfl) ?_)) rfl
  cases claws rows with
  | nil => rfl
  | cons q qs =>
    refine bind_of (a := .tup [.str "claw"]) rfl (bind_of (a := e4 q) (bind_of (a := eL e4 (q :: qs)) rfl (bind_of (a := eN 0) rfl (by rw [show dIx (eL e4 (q :: qs)) (eN 0) = _ from dIx_L (e := e4) 0 rfl]; rfl))) ?_)
    show M.of (dAdd (.tup [.str "claw"]) (.tup [eN q.1, eN q.2.1, eN q.2.2.1, eN q.2.2.2])) = _
    rw [add_tup (by rw [sizeLine_eq]; simp)]; rfl
theorem L_free2 (R : ROk rows) (x : EV.D) (xs : List EV.D) : m__law_fault [eWeb n ties, eRows rows, .tup (.str "free" :: x :: xs)] = pure rForm := by
  refine L_open (s := "('free',)") rep_f kind_f (seq_rt (yes_if (hd_eqS (t := "free") rfl rfl) ?_))
  refine seq_nx (ρ' := EL n ties rows (.tup (.str "free" :: x :: xs)) none none (some (.s (eL e4 (claws rows)))) none none none none none none) (bind_of (a := eL e4 (claws rows)) (bind_of (a := [eRows rows]) rfl (m__law_claws_eq R)) rfl) ?_
  refine bind_of (a := rForm) (bind_of (a := true) ((len_ne (ds := .str "free" :: x :: xs) 1 rfl).trans ?_) rfl) rfl
  rw [decide_eq_false (by rw [List.length_cons, List.length_cons]; omega)]; rfl
theorem L_claw (ds : List EV.D) {r : EV.D} (k : tl__law_fault_6 (EL0 n ties rows (.tup (.str "claw" :: ds))) = pure (.rt r)) : m__law_fault [eWeb n ties, eRows rows, .tup (.str "claw" :: ds)] = pure r :=
  L_open (s := "('claw',)") rep_c kind_c (seq_nx (no_if (hd_eqS (t := "claw") rfl rfl) rfl) k)
theorem L_clen (ds : List EV.D) (h : ds.length ≠ 4) : m__law_fault [eWeb n ties, eRows rows, .tup (.str "claw" :: ds)] = pure rForm := by
  refine L_claw ds (seq_rt (yes_if ((len_ne (ds := .str "claw" :: ds) 5 rfl).trans ?_) rfl))
  rw [decide_eq_false (by rw [List.length_cons]; omega)]; rfl
theorem L_c5 (ds : List EV.D) (h : ds.length = 4) {r : EV.D} (k : tl__law_fault_8 (EL0 n ties rows (.tup (.str "claw" :: ds))) = pure (.rt r)) : m__law_fault [eWeb n ties, eRows rows, .tup (.str "claw" :: ds)] = pure r := by
  refine L_claw ds (seq_nx (no_if ((len_ne (ds := .str "claw" :: ds) 5 rfl).trans ?_) rfl) k)
  rw [decide_eq_true (by rw [List.length_cons]; omega)]; rfl
theorem slice2 {h : EV.D} {ds : List EV.D} {ρ : Ev} {i : Nat} (e : ρ[i]? = some (some (.s (.tup (h :: ds))))) : eSl (eVarI i) (oSome (eC (.int 1))) oNone ρ = pure (.tup ds) :=
  bind_of (var_i e) (bind_of (a := some (1 : Int)) rfl (bind_of (a := none) rfl (by show M.of (some (EV.D.tup (cutG (h :: ds) (some ((1 : Nat) : Int)) none))) = _; rw [cut_from]; rfl)))
theorem bads_eq (ds : List EV.D) (hT : ∀ x ∈ ds, ∃ T, tyNameX x = some T) (v h : EV.D) : eLc [10] (iSeq (eSl (eVarI 2) (oSome (eC (.int 1))) oNone)) (gN 10) ct__law_fault_1 ce__law_fault_1 (EL0 n ties rows (.tup (h :: ds))) = pure (.lst (ds.filter (badX n))) := by
  refine bind_of (a := ds) (bind_of (slice2 rfl) rfl) ?_
  have := comp_pure (xs := ds) (g := gN 10) (ft := ct__law_fault_1) (fe := ce__law_fault_1) (ρ := wipeE (EL0 n ties rows (.tup (h :: ds))) [10]) id (badX n) id fun x hx => ⟨_, rfl, ct1 (hT x hx).choose_spec rfl rfl, fun _ => rfl⟩
  rw [List.map_id, List.map_id] at this
  exact bind_of this rfl
theorem L_c5_bad (ds : List EV.D) (h : ds.length = 4) (hT : ∀ x ∈ ds, ∃ T, tyNameX x = some T) (hb : ∃ x ∈ ds, badX n x = true) : m__law_fault [eWeb n ties, eRows rows, .tup (.str "claw" :: ds)] = pure rForm := by
  refine L_c5 ds h (seq_rt (yes_if (bind_of (a := .bl true) (bind_of (bads_eq ds hT .non (.str "claw")) (bind_of (a := .lst []) rfl ?_)) rfl) rfl))
  rw [ne_lst]
  obtain ⟨x, hx, hb⟩ := hb
  cases e : ds.filter (badX n) with
  | nil => exact absurd (e ▸ List.mem_filter.mpr ⟨hx, hb⟩ : x ∈ ([] : List EV.D)) List.not_mem_nil
  | cons _ _ => rfl
end
end
end K20

namespace K20
open PySem PySem.Spec PyProof.Rows L2 L2.EV
noncomputable section
def lo3 (rows : Rows) (c a b d : Nat) : Lot := [a, b, d].filter fun x => !decide (x ∈ nb rows c)
def ti3 (rows : Rows) (a b d : Nat) : Ties := [(a, b), (a, d), (b, d)].filter fun p => decide (p.2 ∈ nb rows p.1)
def fau (rows : Rows) (c a b d : Nat) : EV.D :=
  match lo3 rows c a b d with
  | x :: _ => .tup [.str "loose", eN x]
  | [] => match ti3 rows a b d with
    | p :: _ => .tup [.str "tied", eN p.1, eN p.2]
    | [] => .non
def fa (rows : Rows) (c a b d : Nat) : EV.D := if a < b ∧ b < d then fau rows c a b d else rForm
theorem lt2 {f g k : Ev → M EV.D} {ρ : Ev} {a b d : Nat} (hf : f ρ = pure (eN a)) (hg : g ρ = pure (eN b)) (hk : k ρ = pure (eN d)) : bOf (eChain dLt dLt f g k) ρ = pure (decide (a < b ∧ b < d)) := by
  refine bind_of (a := .bl (decide (a < b ∧ b < d))) ?_ rfl
  refine bind_of hf (bind_of hg (bind_of (a := decide (a < b)) (bind_of (a := .bl (decide (a < b))) (by rw [dLt_N]; rfl) rfl) ?_))
  by_cases q : a < b
  · rw [decide_eq_true q, if_pos rfl]
    refine bind_of hk ?_
    rw [dLt_N]
    exact congrArg (fun b : Bool => (pure (EV.D.bl b) : M EV.D)) (decide_eq_decide.mpr ⟨fun h => ⟨q, h⟩, fun h => h.2⟩)
  · rw [decide_eq_false q, if_neg Bool.false_ne_true, decide_eq_false (fun h => q h.1)]
theorem ne_nilN (xs : Lot) : dNe (eL eN xs) (.lst []) = some (.bl (!decide (xs = []))) := dNe_good (good_L good_N) (by omega) xs []
theorem ne_nilP (xs : Ties) : dNe (eL (eP eN eN) xs) (.lst []) = some (.bl (!decide (xs = []))) := dNe_good (good_L (good_P good_N good_N)) (by omega) xs []
theorem in_row {rows : Rows} {i j k a x : Nat} {ρ : Ev} (h0 : ρ[i]? = some (some (.s (eRows rows)))) (hj : ρ[j]? = some (some (.s (eN a)))) (hk : ρ[k]? = some (some (.s (eN x)))) (h : a < rows.length) :
    bOf (eBin dIn (eVarI k) (eBin dIx (eVarI i) (eVarI j))) ρ = pure (decide (x ∈ nb rows a)) :=
  bind_of (a := .bl (decide (x ∈ nb rows a))) (bind_of (a := eN x) (by unfold eVarI; rw [hk]; rfl) (bind_of (row_ix h0 hj h) (by rw [in_N]; rfl))) rfl
section
variable {n : Nat} {ties : Ties} {rows : Rows}
theorem badX_N {x : Nat} (h : x < n) : badX n (eN x) = false := by
  show (!(decide ((0 : Int) ≤ (x : Int)) && decide ((x : Int) < (n : Int)))) = false
  rw [decide_eq_true (by omega), decide_eq_true (by omega)]; rfl
theorem tyN (x : Nat) : tyNameX (eN x) = some "int" := rfl
set_option maxHeartbeats 1000000 in
theorem L_num (R : ROk rows) (hn : rows.length = n) {c a b d : Nat} (hc : c < n) (ha : a < n) (hb : b < n) (hd : d < n) :
    m__law_fault [eWeb n ties, eRows rows, .tup [.str "claw", eN c, eN a, eN b, eN d]] = pure (fa rows c a b d) := by
  have hbad : [eN c, eN a, eN b, eN d].filter (badX n) = [] := by
    rw [List.filter_cons_of_neg (by rw [badX_N hc]; exact Bool.false_ne_true), List.filter_cons_of_neg (by rw [badX_N ha]; exact Bool.false_ne_true), List.filter_cons_of_neg (by rw [badX_N hb]; exact Bool.false_ne_true), List.filter_cons_of_neg (by rw [badX_N hd]; exact Bool.false_ne_true)]; rfl
  refine L_c5 [eN c, eN a, eN b, eN d] rfl ?_
  have hT : ∀ x ∈ [eN c, eN a, eN b, eN d], ∃ T, tyNameX x = some T := fun x hx => by
    rcases List.mem_cons.mp hx with rfl | hx
    · exact ⟨_, rfl⟩
    rcases List.mem_cons.mp hx with rfl | hx
    · exact ⟨_, rfl⟩
    rcases List.mem_cons.mp hx with rfl | hx
    · exact ⟨_, rfl⟩
    rw [List.mem_singleton] at hx
    subst hx; exact ⟨_, rfl⟩
  refine seq_nx (no_if (bind_of (a := .bl false) (bind_of (bads_eq _ hT .non (.str "claw")) (bind_of (a := .lst []) rfl (by rw [hbad, ne_lst]; rfl))) rfl) rfl) ?_
  refine seq_nx (ρ' := EL n ties rows (.tup [.str "claw", eN c, eN a, eN b, eN d]) none none none (some (.s (eN c))) (some (.s (eN a))) (some (.s (eN b))) (some (.s (eN d))) none none) (bind_of (a := .tup [eN c, eN a, eN b, eN d]) (slice2 rfl) rfl) ?_
  unfold fa
  have ch := lt2 (a := a) (b := b) (d := d) (f := eVarI 7) (g := eVarI 8) (k := eVarI 9) (ρ := EL n ties rows (.tup [.str "claw", eN c, eN a, eN b, eN d]) none none none (some (.s (eN c))) (some (.s (eN a))) (some (.s (eN b))) (some (.s (eN d))) none none) rfl rfl rfl
  by_cases q : a < b ∧ b < d
  · rw [if_pos q]
    rw [decide_eq_true q] at ch
    refine seq_nx (no_if (not_b ch) rfl) ?_
    have e1 : eLc [10] (iSeq (eTup (aCons (eVar 7) (aCons (eVar 8) (aCons (eVar 9) aNil))))) (gN 10) ct__law_fault_2 ce__law_fault_2 (EL n ties rows (.tup [.str "claw", eN c, eN a, eN b, eN d]) none none none (some (.s (eN c))) (some (.s (eN a))) (some (.s (eN b))) (some (.s (eN d))) none none) = pure (eL eN (lo3 rows c a b d)) :=
      bind_of (a := [a, b, d].map eN) rfl (bind_of (comp_pure eN (fun x => !decide (x ∈ nb rows c)) eN fun x _ => ⟨_, rfl, nin_row (a := c) (x := x) rfl rfl rfl (by omega), fun _ => rfl⟩) rfl)
    refine seq_nx (ρ' := EL n ties rows (.tup [.str "claw", eN c, eN a, eN b, eN d]) (some (.s (eL eN (lo3 rows c a b d)))) none none (some (.s (eN c))) (some (.s (eN a))) (some (.s (eN b))) (some (.s (eN d))) none none) (bind_of e1 rfl) ?_
    have e2 : bOf (eBin dNeX (eVarI 3) (eLst aNil)) (EL n ties rows (.tup [.str "claw", eN c, eN a, eN b, eN d]) (some (.s (eL eN (lo3 rows c a b d)))) none none (some (.s (eN c))) (some (.s (eN a))) (some (.s (eN b))) (some (.s (eN d))) none none) = pure (!decide (lo3 rows c a b d = [])) :=
      bind_of (a := .bl (!decide (lo3 rows c a b d = []))) (bind_of (a := eL eN (lo3 rows c a b d)) rfl (bind_of (a := .lst []) rfl (by rw [dNeX_of (ne_nilN _)]; rfl))) rfl
    unfold fau
    cases hlo : lo3 rows c a b d with
    | cons x xs =>
      rw [hlo] at e2
      refine seq_rt (yes_if e2 (bind_of (a := .tup [.str "loose", eN x]) (bind_of (a := [.str "loose", eN x]) (bind_of (a := .str "loose") rfl (bind_of (a := [eN x]) (bind_of (a := eN x) (bind_of (a := eL eN (x :: xs)) rfl (bind_of (a := eN 0) rfl (by rw [show dIx (eL eN (x :: xs)) (eN 0) = _ from dIx_L (e := eN) 0 rfl]; rfl))) rfl) rfl)) rfl) rfl))
    | nil =>
      rw [hlo] at e2
      refine seq_nx (no_if e2 rfl) ?_
      have e3 : eLc [10, 11] (iSeq (eTup (aCons (eTup (aCons (eVar 7) (aCons (eVar 8) aNil))) (aCons (eTup (aCons (eVar 7) (aCons (eVar 9) aNil))) (aCons (eTup (aCons (eVar 8) (aCons (eVar 9) aNil))) aNil))))) (gT (gCons0 (gN 10) (gCons0 (gN 11) gNil0))) ct__law_fault_3 ce__law_fault_3 (EL n ties rows (.tup [.str "claw", eN c, eN a, eN b, eN d]) (some (.s (eL eN []))) none none (some (.s (eN c))) (some (.s (eN a))) (some (.s (eN b))) (some (.s (eN d))) none none) = pure (eL (eP eN eN) (ti3 rows a b d)) :=
        bind_of (a := [(a, b), (a, d), (b, d)].map (eP eN eN)) rfl (bind_of (comp_pure (eP eN eN) (fun p => decide (p.2 ∈ nb rows p.1)) (eP eN eN) fun p hp => ⟨_, rfl, in_row (a := p.1) (x := p.2) rfl rfl rfl (by
          rcases List.mem_cons.mp hp with rfl | hp
          · rw [hn]; exact ha
          rcases List.mem_cons.mp hp with rfl | hp
          · rw [hn]; exact ha
          rw [List.mem_singleton] at hp
          subst hp; rw [hn]; exact hb), fun _ => rfl⟩) rfl)
      refine seq_nx (ρ' := EL n ties rows (.tup [.str "claw", eN c, eN a, eN b, eN d]) (some (.s (eL eN []))) (some (.s (eL (eP eN eN) (ti3 rows a b d)))) none (some (.s (eN c))) (some (.s (eN a))) (some (.s (eN b))) (some (.s (eN d))) none none) (bind_of e3 rfl) ?_
      have e4 : bOf (eBin dNeX (eVarI 4) (eLst aNil)) (EL n ties rows (.tup [.str "claw", eN c, eN a, eN b, eN d]) (some (.s (eL eN []))) (some (.s (eL (eP eN eN) (ti3 rows a b d)))) none (some (.s (eN c))) (some (.s (eN a))) (some (.s (eN b))) (some (.s (eN d))) none none) = pure (!decide (ti3 rows a b d = [])) :=
        bind_of (a := .bl (!decide (ti3 rows a b d = []))) (bind_of (a := eL (eP eN eN) (ti3 rows a b d)) rfl (bind_of (a := .lst []) rfl (by rw [dNeX_of (ne_nilP _)]; rfl))) rfl
      cases hti : ti3 rows a b d with
      | nil =>
        rw [hti] at e4
        exact bind_of (a := .non) (bind_of e4 rfl) rfl
      | cons p ps =>
        rw [hti] at e4
        refine bind_of (a := .tup [.str "tied", eN p.1, eN p.2]) (bind_of e4 ?_) rfl
        refine bind_of (a := .tup [.str "tied"]) rfl (bind_of (a := eP eN eN p) (bind_of (a := eL (eP eN eN) (p :: ps)) rfl (bind_of (a := eN 0) rfl (by rw [show dIx (eL (eP eN eN) (p :: ps)) (eN 0) = _ from dIx_L (e := eP eN eN) 0 rfl]; rfl))) ?_)
        show M.of (dAdd (.tup [.str "tied"]) (.tup [eN p.1, eN p.2])) = _
        rw [add_tup (by rw [sizeLine_eq]; simp)]; rfl
  · rw [if_neg q]
    rw [decide_eq_false q] at ch
    exact seq_rt (yes_if (not_b ch) rfl)
end
end
end K20

namespace K20
open PySem PySem.Spec PyProof.Rows L2 L2.EV
noncomputable section
section
variable {n : Nat} {ties : Ties}
theorem J_nt {v : EV.D} {T : String} (h : tyNameX v = some T) (hT : isaT T "tuple" = false) : m_judge_claw [eWeb n ties, v] = pure rForm := by
  rw [un_judge_claw]
  refine bind_of (a := Out.rt rForm) (seq_rt (yes_if (or_t ((not_b (isi_b (T := "tuple") (x := v) rfl h)).trans (by rw [hT]; rfl))) rfl)) rfl
theorem len_in {ρ : Ev} {ds : List EV.D} (h : ρ[1]? = some (some (.s (.tup ds)))) : bOf (eBin dNotIn (eCall dLen (aCons (eVarI 1) aNil)) (eTup (aCons (eC (.int 1)) (aCons (eC (.int 5)) aNil)))) ρ = pure (!decide (ds.length ∈ [1, 5])) :=
  bind_of (a := .bl (!decide (ds.length ∈ [1, 5]))) (bind_of (a := eN ds.length) (bind_of (a := [.tup ds]) (bind_of (var_i h) rfl) rfl) (bind_of (a := eT eN [1, 5]) rfl (by
    rw [show dNotIn (eN ds.length) (eT eN [1, 5]) = some (.bl (!decide (ds.length ∈ [1, 5]))) from (dNotIn_T good_N (by omega) ds.length [1, 5]).trans (congrArg (fun b : Bool => some (D.bl (!b))) (decide_eq_decide.mpr Iff.rfl))]; rfl))) rfl
theorem J_len {ds : List EV.D} (h : ds.length ≠ 1 ∧ ds.length ≠ 5) : m_judge_claw [eWeb n ties, .tup ds] = pure rForm := by
  rw [un_judge_claw]
  refine bind_of (a := Out.rt rForm) (seq_rt (yes_if (or_f (not_b (isi_b (T := "tuple") (t := "tuple") rfl rfl)) (or_t ((len_in (ds := ds) rfl).trans ?_))) rfl)) rfl
  rw [decide_eq_false (by simp; exact h)]; rfl
theorem J_open {t : Str} {ds : List EV.D} {r : EV.D} (h : ds.length = 0 ∨ ds.length = 4) (k : tl_judge_claw_3 [some (.s (eWeb n ties)), some (.s (.tup (.str t :: ds))), none] = pure (.rt r)) : m_judge_claw [eWeb n ties, .tup (.str t :: ds)] = pure r := by
  rw [un_judge_claw]
  refine bind_of (a := Out.rt r) (seq_nx (no_if (or_f (not_b (isi_b (T := "tuple") (t := "tuple") rfl rfl)) (or_f ((len_in (ds := .str t :: ds) rfl).trans (by rw [decide_eq_true (by rw [List.length_cons]; rcases h with h | h <;> rw [h] <;> simp)]; rfl)) (not_b (isi_b (T := "str") (t := "str") (x := .str t) (bind_of (a := EV.D.tup (.str t :: ds)) rfl (bind_of (a := eN 0) rfl (by rw [ix_tup 0 rfl]; rfl))) rfl)))) rfl) k) rfl
theorem eq_free : dEqX (.tup [.str "free"]) (.tup [.str "free"]) = some (.bl true) := by
  have h : dEqv (.tup [.str "free"]) (.tup [.str "free"]) = some true := by
    have sh : SeqAt.shaped (PyData.tuple [PyData.str "free"]) = true := by simp [SeqAt.shaped, PyData.canLay0, PyData.canLayAll0, PyData.depth, PyData.depthAll]; decide +kernel
    have e : dEqv (.tup [.str "free"]) (.tup [.str "free"]) = (if SeqAt.shaped (PyData.tuple [PyData.str "free"]) && SeqAt.shaped (PyData.tuple [PyData.str "free"]) then some (PyData.eqv (PyData.tuple [PyData.str "free"]) (PyData.tuple [PyData.str "free"])) else none) := rfl
    rw [e, sh]; rfl
  unfold dEqX
  rw [dEqvX_of h]; rfl
theorem eq_more (x : EV.D) (xs : List EV.D) : dEqX (.tup (.str "claw" :: x :: xs)) (.tup [.str "free"]) = some (.bl false) := by
  unfold dEqX dEqvX
  cases e : dEqv (.tup (.str "claw" :: x :: xs)) (.tup [.str "free"]) with
  | some b =>
    obtain ⟨p, q, h1, h2, _, _, h⟩ := dEqv_eq e
    simp only [D.py, pyAll] at h1 h2
    cases e1 : D.py x with
    | none => rw [e1] at h1; cases h1
    | some p1 =>
      cases e2 : pyAll xs with
      | none => rw [e1, e2] at h1; cases h1
      | some ps =>
        rw [e1, e2] at h1
        cases h1
        cases h2
        rw [h]; rfl
  | none =>
    have hmin : min (.str "claw" :: x :: xs : List EV.D).length ([.str "free"] : List EV.D).length = 1 := by rw [List.length_cons, List.length_cons, List.length_singleton]; omega
    have e3 : dEqP (.str "claw" :: x :: xs) [.str "free"] = some false := by
      unfold dEqP
      rw [hmin]
      have hp : pyAll ((.str "claw" :: x :: xs : List EV.D).take 1) = some [PyData.str "claw"] := rfl
      have hq : pyAll (([.str "free"] : List EV.D).take 1) = some [PyData.str "free"] := rfl
      rw [hp, hq]
      have sc : PyData.canLayAll0 [PyData.str "claw"] = true := by simp [PyData.canLay0, PyData.canLayAll0]; decide +kernel
      have sf : PyData.canLayAll0 [PyData.str "free"] = true := by simp [PyData.canLay0, PyData.canLayAll0]; decide +kernel
      have d1 : PyData.depthAll [PyData.str "claw"] ≤ 60 := by simp [PyData.depthAll, PyData.depth]
      have d2 : PyData.depthAll [PyData.str "free"] ≤ 60 := by simp [PyData.depthAll, PyData.depth]
      simp only [sc, sf, decide_eq_true d1, decide_eq_true d2, Bool.and_self, if_pos]
      rfl
    show (dEqP (.str "claw" :: x :: xs) [.str "free"]).map EV.D.bl = _
    rw [e3]; rfl
theorem told_eq (xs : List Q4) : dEqX (told xs) (.tup [.str "free"]) = some (.bl (decide (xs = []))) := by
  cases xs with
  | nil => exact eq_free
  | cons q qs => exact eq_more _ _
theorem J_free (w : WebOk n ties) : m_judge_claw [eWeb n ties, .tup [.str "free"]] = pure (fr (claws (rowsA n ties))) := by
  refine J_open (ds := []) (.inl rfl) (seq_rt (yes_if (bind_of (a := .bl true) (bind_of (a := .tup [.str "free"]) rfl (bind_of (a := .tup [.str "free"]) rfl (by rw [eq_free]; rfl))) rfl) ?_))
  refine seq_nx (ρ' := [some (.s (eWeb n ties)), some (.s (.tup [.str "free"])), some (.s (told (claws (rowsA n ties))))]) (bind_of (a := told (claws (rowsA n ties))) (bind_of (a := [eWeb n ties]) rfl (m_claw_paper_eq w)) rfl) ?_
  refine bind_of (a := fr (claws (rowsA n ties))) (bind_of (a := decide (claws (rowsA n ties) = [])) (bind_of (a := .bl (decide (claws (rowsA n ties) = []))) (bind_of (a := told (claws (rowsA n ties))) rfl (bind_of (a := .tup [.str "free"]) rfl (by rw [told_eq]; rfl))) rfl) ?_) rfl
  cases claws (rowsA n ties) with
  | nil => rfl
  | cons q qs => rfl
theorem J_claw {ds : List EV.D} (h : ds.length = 4) {r : EV.D} (k : tl_judge_claw_6 [some (.s (eWeb n ties)), some (.s (.tup (.str "claw" :: ds))), none] = pure (.rt r)) : m_judge_claw [eWeb n ties, .tup (.str "claw" :: ds)] = pure r := by
  refine J_open (t := "claw") (.inr h) (seq_nx (no_if (bind_of (a := .bl false) (bind_of (a := .tup (.str "claw" :: ds)) rfl (bind_of (a := .tup [.str "free"]) rfl ?_)) rfl) rfl) k)
  cases ds with
  | nil => cases h
  | cons x xs => rw [eq_more]; rfl
theorem pl_eq {ds : List EV.D} {b : Bool} (h : m_are_places_of [eWeb n ties, .tup ds] = pure (.bl b)) (hd : EV.D) : bOf (eCallU m_are_places_of (aCons (eVar 0) (aCons (eSl (eVarI 1) (oSome (eC (.int 1))) oNone) aNil))) [some (.s (eWeb n ties)), some (.s (.tup (hd :: ds))), none] = pure b :=
  bind_of (a := .bl b) (bind_of (a := [eWeb n ties, .tup ds]) (bind_of (a := eWeb n ties) rfl (bind_of (a := [.tup ds]) (bind_of (slice2 rfl) rfl) rfl)) h) rfl
theorem J_bad (ds : List EV.D) (h : ds.length = 4) (hT : ∀ x ∈ ds, ∃ T, tyNameX x = some T) (hb : ∃ x ∈ ds, badX n x = true) : m_judge_claw [eWeb n ties, .tup (.str "claw" :: ds)] = pure rForm := by
  have hall : (ds.all fun x => !badX n x) = false := by
    obtain ⟨x, hx, hb⟩ := hb
    cases e : (ds.all fun x => !badX n x) with
    | false => rfl
    | true =>
      have := List.all_eq_true.mp e x hx
      rw [hb] at this
      cases this
  have e := m_are_places_eq (n := n) (ties := ties) ds hT
  rw [hall] at e
  refine J_claw h (seq_rt (yes_if (or_f (hd_neS (t := "claw") rfl rfl) (or_f ((len_ne (ds := .str "claw" :: ds) 5 rfl).trans ?_) (not_b (pl_eq e (.str "claw"))))) rfl))
  rw [decide_eq_true (by rw [List.length_cons, h])]; rfl
end
section
variable {n : Nat} {ties : Ties} (w : WebOk n ties)
include w
set_option maxHeartbeats 1000000 in
theorem m_claw_fault_eq {c a b d : Nat} (hc : c < n) (ha : a < n) (hb : b < n) (hd : d < n) : m_claw_fault [eWeb n ties, eN c, .tup [eN a, eN b, eN d]] = pure (fau (rowsA n ties) c a b d) := by
  have R := rok w
  have hn := rowsA_len n ties
  rw [un_claw_fault]
  generalize hrows : rowsA n ties = rows at *
  let E : Option Cell → Option Cell → Option Cell → Option Cell → Option Cell → Ev := fun c4 c5 c6 c7 c8 => [some (.s (eWeb n ties)), some (.s (eN c)), some (.s (.tup [eN a, eN b, eN d])), some (.s (eRows rows)), c4, c5, c6, c7, c8, none, none]
  refine bind_of (a := Out.rt (fau rows c a b d)) (seq_nx (ρ' := E none none none none none) (bind_of (a := eRows rows) (bind_of (a := [eWeb n ties]) rfl (hrows ▸ m_nei w)) rfl) ?_) rfl
  have e1 : eLc [6] (iSeq (eVarI 2)) (gN 6) ct_claw_fault_1 ce_claw_fault_1 (E none none none none none) = pure (eL eN (lo3 rows c a b d)) :=
    bind_of (a := [a, b, d].map eN) rfl (bind_of (comp_pure eN (fun x => !decide (x ∈ nb rows c)) eN fun x _ => ⟨_, rfl, nin_row (a := c) (x := x) rfl rfl rfl (by omega), fun _ => rfl⟩) rfl)
  refine seq_nx (ρ' := E (some (.s (eL eN (lo3 rows c a b d)))) none none none none) (bind_of e1 rfl) ?_
  have e2 : bOf (eBin dNe (eVarI 4) (eLst aNil)) (E (some (.s (eL eN (lo3 rows c a b d)))) none none none none) = pure (!decide (lo3 rows c a b d = [])) :=
    bind_of (a := .bl (!decide (lo3 rows c a b d = []))) (bind_of (a := eL eN (lo3 rows c a b d)) rfl (bind_of (a := .lst []) rfl (by rw [ne_nilN _]; rfl))) rfl
  unfold fau
  cases hlo : lo3 rows c a b d with
  | cons x xs =>
    rw [hlo] at e2
    refine seq_rt (yes_if e2 (bind_of (a := .tup [.str "loose", eN x]) (bind_of (a := [.str "loose", eN x]) (bind_of (a := .str "loose") rfl (bind_of (a := [eN x]) (bind_of (a := eN x) (bind_of (a := eL eN (x :: xs)) rfl (bind_of (a := eN 0) rfl (by rw [show dIx (eL eN (x :: xs)) (eN 0) = _ from dIx_L (e := eN) 0 rfl]; rfl))) rfl) rfl)) rfl) rfl))
  | nil =>
    rw [hlo] at e2
    refine seq_nx (no_if e2 rfl) ?_
    refine seq_nx (ρ' := E (some (.s (eL eN []))) none (some (.s (eN a))) (some (.s (eN b))) (some (.s (eN d)))) rfl ?_
    have e3 : eLc [9, 10] (iSeq (eTup (aCons (eTup (aCons (eVar 6) (aCons (eVar 7) aNil))) (aCons (eTup (aCons (eVar 6) (aCons (eVar 8) aNil))) (aCons (eTup (aCons (eVar 7) (aCons (eVar 8) aNil))) aNil))))) (gT (gCons0 (gN 9) (gCons0 (gN 10) gNil0))) ct_claw_fault_2 ce_claw_fault_2 (E (some (.s (eL eN []))) none (some (.s (eN a))) (some (.s (eN b))) (some (.s (eN d)))) = pure (eL (eP eN eN) (ti3 rows a b d)) :=
      bind_of (a := [(a, b), (a, d), (b, d)].map (eP eN eN)) rfl (bind_of (comp_pure (eP eN eN) (fun p => decide (p.2 ∈ nb rows p.1)) (eP eN eN) fun p hp => ⟨_, rfl, in_row (a := p.1) (x := p.2) rfl rfl rfl (by
          rcases List.mem_cons.mp hp with rfl | hp
          · rw [hn]; exact ha
          rcases List.mem_cons.mp hp with rfl | hp
          · rw [hn]; exact ha
          rw [List.mem_singleton] at hp
          subst hp; rw [hn]; exact hb), fun _ => rfl⟩) rfl)
    refine seq_nx (ρ' := E (some (.s (eL eN []))) (some (.s (eL (eP eN eN) (ti3 rows a b d)))) (some (.s (eN a))) (some (.s (eN b))) (some (.s (eN d)))) (bind_of e3 rfl) ?_
    have e4 : bOf (eBin dNe (eVarI 5) (eLst aNil)) (E (some (.s (eL eN []))) (some (.s (eL (eP eN eN) (ti3 rows a b d)))) (some (.s (eN a))) (some (.s (eN b))) (some (.s (eN d)))) = pure (!decide (ti3 rows a b d = [])) :=
      bind_of (a := .bl (!decide (ti3 rows a b d = []))) (bind_of (a := eL (eP eN eN) (ti3 rows a b d)) rfl (bind_of (a := .lst []) rfl (by rw [ne_nilP _]; rfl))) rfl
    cases hti : ti3 rows a b d with
    | nil =>
      rw [hti] at e4
      exact bind_of (a := .non) (bind_of e4 rfl) rfl
    | cons p ps =>
      rw [hti] at e4
      refine bind_of (a := .tup [.str "tied", eN p.1, eN p.2]) (bind_of e4 ?_) rfl
      refine bind_of (a := [.str "tied", eN p.1, eN p.2]) (bind_of (a := .str "tied") rfl (bind_of (a := [eN p.1, eN p.2]) (bind_of (a := eP eN eN p) (bind_of (a := eL (eP eN eN) (p :: ps)) rfl (bind_of (a := eN 0) rfl (by rw [show dIx (eL (eP eN eN) (p :: ps)) (eN 0) = _ from dIx_L (e := eP eN eN) 0 rfl]; rfl))) rfl) rfl)) ?_
      rw [if_pos (by rw [sizeLine_eq]; simp)]; rfl
theorem J_num {c a b d : Nat} (hc : c < n) (ha : a < n) (hb : b < n) (hd : d < n) : m_judge_claw [eWeb n ties, .tup [.str "claw", eN c, eN a, eN b, eN d]] = pure (fa (rowsA n ties) c a b d) := by
  have hT : ∀ x ∈ [eN c, eN a, eN b, eN d], ∃ T, tyNameX x = some T := fun x hx => by
    rcases List.mem_cons.mp hx with rfl | hx
    · exact ⟨_, rfl⟩
    rcases List.mem_cons.mp hx with rfl | hx
    · exact ⟨_, rfl⟩
    rcases List.mem_cons.mp hx with rfl | hx
    · exact ⟨_, rfl⟩
    rw [List.mem_singleton] at hx
    subst hx; exact ⟨_, rfl⟩
  have e := m_are_places_eq (n := n) (ties := ties) [eN c, eN a, eN b, eN d] hT
  have hall : ([eN c, eN a, eN b, eN d].all fun x => !badX n x) = true := by
    simp only [List.all_cons, List.all_nil, badX_N hc, badX_N ha, badX_N hb, badX_N hd]; rfl
  rw [hall] at e
  refine J_claw rfl (seq_nx (no_if (or_f (hd_neS (t := "claw") rfl rfl) (or_f (len_ne (ds := [.str "claw", eN c, eN a, eN b, eN d]) 5 rfl) (not_b (pl_eq e (.str "claw"))))) rfl) ?_)
  have ix : ∀ (i : Nat) (x : EV.D), [.str "claw", eN c, eN a, eN b, eN d][i]? = some x → eBin dIx (eVarI 1) (eC (.int i)) [some (.s (eWeb n ties)), some (.s (.tup [.str "claw", eN c, eN a, eN b, eN d])), none] = pure x := fun i x h =>
    bind_of (a := .tup [.str "claw", eN c, eN a, eN b, eN d]) rfl (bind_of (a := eN i) rfl (by rw [ix_tup i h]; rfl))
  have ch := lt2 (a := a) (b := b) (d := d) (ix 2 _ rfl) (ix 3 _ rfl) (ix 4 _ rfl)
  unfold fa
  refine bind_of (a := if a < b ∧ b < d then fau (rowsA n ties) c a b d else rForm) (bind_of ch ?_) rfl
  by_cases q : a < b ∧ b < d
  · rw [decide_eq_true q, if_pos rfl, if_pos q]
    refine bind_of (a := [eWeb n ties, eN c, .tup [eN a, eN b, eN d]]) (bind_of (a := eWeb n ties) rfl (bind_of (a := [eN c, .tup [eN a, eN b, eN d]]) (bind_of (ix 1 _ rfl) (bind_of (a := [.tup [eN a, eN b, eN d]]) (bind_of (a := .tup [eN a, eN b, eN d]) rfl rfl) rfl)) rfl)) (m_claw_fault_eq w hc ha hb hd)
  · rw [decide_eq_false q, if_neg Bool.false_ne_true, if_neg q]; rfl
end
end
end K20

namespace K20
open PySem PySem.Spec PyProof.Rows L2 L2.EV
noncomputable section
theorem cl_mem {rows : Rows} {c a b d : Nat} (hc : c < rows.length) (h : fa rows c a b d = .non) : claws rows ≠ [] := by
  unfold fa at h
  split at h
  · rename_i q
    unfold fau at h
    split at h
    · cases h
    · rename_i hlo
      split at h
      · cases h
      · rename_i hti
        have m1 : ∀ x ∈ [a, b, d], x ∈ nb rows c := fun x hx => by
          by_cases e : x ∈ nb rows c
          · exact e
          · have : x ∈ lo3 rows c a b d := List.mem_filter.mpr ⟨hx, by rw [decide_eq_false e]; rfl⟩
            rw [hlo] at this
            exact nomatch this
        have m2 : ∀ p ∈ [(a, b), (a, d), (b, d)], p.2 ∉ nb rows p.1 := fun p hp e => by
          have : p ∈ ti3 rows a b d := List.mem_filter.mpr ⟨hp, decide_eq_true e⟩
          rw [hti] at this
          exact nomatch this
        have : (c, a, b, d) ∈ claws rows := by
          refine List.mem_flatMap.mpr ⟨c, List.mem_range.mpr hc, List.mem_flatMap.mpr ⟨a, m1 a (by simp), List.mem_flatMap.mpr ⟨b, List.mem_filter.mpr ⟨m1 b (by simp), ?_⟩, List.mem_map.mpr ⟨d, List.mem_filter.mpr ⟨m1 d (by simp), ?_⟩, rfl⟩⟩⟩⟩
          · rw [decide_eq_true q.1, decide_eq_false (m2 (a, b) (by simp))]; rfl
          · rw [decide_eq_true q.2, decide_eq_false (m2 (a, d) (by simp)), decide_eq_false (m2 (b, d) (by simp))]; rfl
        intro e
        rw [e] at this
        exact nomatch this
  · cases h
/-- what is asked of each value -/
structure Fin (n : Nat) (ties : Ties) (v : EV.D) : Prop where
  ex : ∃ r s1 s2, m__law_fault [eWeb n ties, eRows (rowsA n ties), v] = pure r ∧ m_judge_claw [eWeb n ties, v] = pure r ∧ dReprX [v] = some (.str s1) ∧ dReprX [r] = some (.str s2) ∧
    (dIs r .non = some (.bl false) ∨ dIs r .non = some (.bl true) ∧ ∃ d, dIx v (eN 0) = some d ∧ dIx (told (claws (rowsA n ties))) (eN 0) = some d ∧ dNeX d d = some (.bl false))
theorem sh_form : Sh rForm 1 200 := sh_w1 (s := "form") (by decide +kernel) (by decide +kernel)
theorem is_tup (ds : List EV.D) : dIs (.tup ds) .non = some (.bl false) := rfl
theorem ne_word (s : Str) (h : PyData.strOk s = true) : dNeX (.str s) (.str s) = some (.bl false) := by
  have e : dEqv (.str s) (.str s) = some true := by
    have e : dEqv (.str s) (.str s) = (if SeqAt.shaped (PyData.str s) && SeqAt.shaped (PyData.str s) then some (PyData.eqv (PyData.str s) (PyData.str s)) else none) := rfl
    rw [e, shs s h]
    show some (s == s) = some true
    rw [beq_self_eq_true]
  unfold dNeX
  rw [dEqvX_of e]; rfl
theorem sh_nums (s : Str) (h : PyData.strOk s = true) (hz : s.cps.size ≤ 41) (L : Lot) (hL : ∀ x ∈ L, x < 1000) (hl : L.length ≤ 9) : Sh (.tup (.str s :: L.map eN)) 1 500 := by
  refine sh_tup (k := 0) (w := 41) (fun d hd => ?_) (by rw [List.length_cons, List.length_map]; omega)
  rcases List.mem_cons.mp hd with rfl | hd
  · exact sh_str h hz
  · obtain ⟨x, hx, rfl⟩ := List.mem_map.mp hd
    exact sh_N (by have := hL x hx; omega)
section
variable {n : Nat} {ties : Ties} (w : WebOk n ties)
include w
theorem claws_lt : ∀ q ∈ claws (rowsA n ties), q.1 < n ∧ q.2.1 < n ∧ q.2.2.1 < n ∧ q.2.2.2 < n := fun q hq => by
  have R := rok w
  have hn := rowsA_len n ties
  obtain ⟨c, hc, hq⟩ := List.mem_flatMap.mp hq
  obtain ⟨a, ha, hq⟩ := List.mem_flatMap.mp hq
  obtain ⟨b, hb, hq⟩ := List.mem_flatMap.mp hq
  obtain ⟨d, hd, rfl⟩ := List.mem_map.mp hq
  have h1 := R.lt c a ha
  have h2 := R.lt c b (List.mem_filter.mp hb).1
  have h3 := R.lt c d (List.mem_filter.mp hd).1
  have h4 := List.mem_range.mp hc
  rw [hn] at h1 h2 h3 h4
  exact ⟨h4, h1, h2, h3⟩
theorem fin_form {v : EV.D} {s : Str} (h1 : m__law_fault [eWeb n ties, eRows (rowsA n ties), v] = pure rForm) (h2 : m_judge_claw [eWeb n ties, v] = pure rForm) (h3 : dReprX [v] = some (.str s)) : Fin n ties v :=
  let ⟨s2, e⟩ := reprX_sh sh_form
  ⟨rForm, s, s2, h1, h2, h3, e, .inl rfl⟩
theorem fin_free : Fin n ties (.tup [.str "free"]) := by
  have R := rok w
  have n12 := w.n12
  refine ⟨fr (claws (rowsA n ties)), "('free',)", ?_⟩
  have h1 := L_free (n := n) (ties := ties) R
  have h2 := J_free w
  have hlt := claws_lt w
  cases e : claws (rowsA n ties) with
  | nil =>
    rw [e] at h1 h2
    obtain ⟨s, hs⟩ := reprX_sh sh_non
    exact ⟨s, h1, h2, rep_f, hs, .inr ⟨rfl, .str "free", ix_tup 0 rfl, ix_tup 0 rfl, ne_word _ (by decide +kernel)⟩⟩
  | cons q qs =>
    rw [e] at h1 h2 hlt
    obtain ⟨l1, l2, l3, l4⟩ := hlt q List.mem_cons_self
    obtain ⟨s, hs⟩ := reprX_sh (sh_nums "claw" (by decide +kernel) (by decide +kernel) [q.1, q.2.1, q.2.2.1, q.2.2.2] (fun x hx => by
      simp only [List.mem_cons, List.not_mem_nil, or_false] at hx
      omega) (by simp))
    exact ⟨s, h1, h2, rep_f, hs, .inl rfl⟩
theorem fin_nums (L : Lot) (hL : ∀ x ∈ L, x < n) (hl : L.length ≤ 9) (h0 : L ≠ []) : Fin n ties (.tup (.str "claw" :: L.map eN)) := by
  have R := rok w
  have hn := rowsA_len n ties
  have n12 := w.n12
  obtain ⟨s, hs⟩ := reprX_sh (sh_nums "claw" (by decide +kernel) (by decide +kernel) L (fun x hx => by have := hL x hx; omega) hl)
  by_cases q : L.length = 4
  · obtain ⟨c, a, b, d, rfl⟩ : ∃ c a b d, L = [c, a, b, d] := by
      match L, q with
      | [c, a, b, d], _ => exact ⟨c, a, b, d, rfl⟩
    have hc := hL c (by simp)
    have ha := hL a (by simp)
    have hb := hL b (by simp)
    have hd := hL d (by simp)
    have h1 := L_num (ties := ties) R hn hc ha hb hd
    have h2 := J_num w hc ha hb hd
    have hf : ∃ s2, dReprX [fa (rowsA n ties) c a b d] = some (.str s2) ∧ (dIs (fa (rowsA n ties) c a b d) .non = some (.bl false) ∨ dIs (fa (rowsA n ties) c a b d) .non = some (.bl true) ∧ fa (rowsA n ties) c a b d = .non) := by
      have hlo : ∀ x ∈ lo3 (rowsA n ties) c a b d, x < 1000 := fun x hx => by
        have := (List.mem_filter.mp hx).1
        simp only [List.mem_cons, List.not_mem_nil, or_false] at this
        omega
      have hti : ∀ p ∈ ti3 (rowsA n ties) a b d, p.1 < 1000 ∧ p.2 < 1000 := fun p hp => by
        have := (List.mem_filter.mp hp).1
        simp only [List.mem_cons, List.not_mem_nil, or_false] at this
        rcases this with rfl | rfl | rfl <;> (show _ ∧ _; simp only; omega)
      unfold fa
      split
      · unfold fau
        split
        · rename_i x xs e
          obtain ⟨s2, h⟩ := reprX_sh (sh_nums "loose" (by decide +kernel) (by decide +kernel) [x] (fun y hy => by rw [List.mem_singleton] at hy; subst hy; exact hlo y (by rw [e]; exact List.mem_cons_self)) (by simp))
          exact ⟨s2, h, .inl rfl⟩
        · split
          · rename_i p ps e
            have := hti p (by rw [e]; exact List.mem_cons_self)
            obtain ⟨s2, h⟩ := reprX_sh (sh_nums "tied" (by decide +kernel) (by decide +kernel) [p.1, p.2] (fun y hy => by simp only [List.mem_cons, List.not_mem_nil, or_false] at hy; omega) (by simp))
            exact ⟨s2, h, .inl rfl⟩
          · obtain ⟨s2, h⟩ := reprX_sh sh_non
            exact ⟨s2, h, .inr ⟨rfl, rfl⟩⟩
      · obtain ⟨s2, h⟩ := reprX_sh sh_form
        exact ⟨s2, h, .inl rfl⟩
    obtain ⟨s2, hs2, hf⟩ := hf
    refine ⟨_, s, s2, h1, h2, hs, hs2, hf.imp id fun ⟨g1, g2⟩ => ⟨g1, .str "claw", ix_tup 0 rfl, ?_, ne_word _ (by decide +kernel)⟩⟩
    have hne := cl_mem (by rw [hn]; exact hc) g2
    cases e : claws (rowsA n ties) with
    | nil => exact absurd e hne
    | cons q qs => exact ix_tup 0 rfl
  · refine fin_form w (L_clen (L.map eN) (by rw [List.length_map]; exact q)) (J_len ⟨?_, ?_⟩) hs
    · rw [List.length_cons, List.length_map]
      have := List.length_pos_iff.mpr h0
      omega
    · rw [List.length_cons, List.length_map]; omega
theorem fin_told : Fin n ties (told (claws (rowsA n ties))) := by
  have hlt := claws_lt w
  cases e : claws (rowsA n ties) with
  | nil => exact fin_free w
  | cons q qs =>
    rw [e] at hlt
    obtain ⟨l1, l2, l3, l4⟩ := hlt q List.mem_cons_self
    exact fin_nums w [q.1, q.2.1, q.2.2.1, q.2.2.2] (fun x hx => by
      simp only [List.mem_cons, List.not_mem_nil, or_false] at hx
      omega) (by simp) (by simp)
theorem fin_nt {v : EV.D} {T s : _} (h : tyNameX v = some T) (hT : isaT T "tuple" = false) (hs : dReprX [v] = some (.str s)) : Fin n ties v := fin_form w (L_nt h hT) (J_nt h hT) hs
end
end
end K20

namespace K20
open PySem PySem.Spec PyProof.Rows L2 L2.EV
noncomputable section
def odd : List EV.D := [.non, .bl true, .int 0, .int 1, .int 99, .int (-1), .str "free", .tup [], .tup [.int 0], .lst [.int 0], .dct false []]
def hdOk : EV.D → Bool
  | .str _ => true
  | t => badHead [t]
theorem odd_hd : (odd.all hdOk) = true := by decide +kernel
theorem nil_hd : badHead [] = true := by decide +kernel
structure Thing (n : Nat) (t : EV.D) : Prop where
  ty : ∃ T, tyNameX t = some T
  sh : Sh t 1 200 ∨ ShT t 1 200
  hd : t = .str "free" ∨ badHead [t] = true
  num : badX n t = false → ∃ k, t = eN k ∧ k < n
theorem num_of {n : Nat} {t : EV.D} (h : badX n t = false) : ∃ k, t = eN k ∧ k < n := by
  cases t with
  | int i =>
    have : (!(decide (0 ≤ i) && decide (i < n))) = false := h
    rw [Bool.not_eq_false', Bool.and_eq_true, decide_eq_true_eq, decide_eq_true_eq] at this
    exact ⟨i.toNat, by show EV.D.int i = EV.D.int _; congr 1; omega, by omega⟩
  | _ => cases h
theorem thing (n : Nat) {t : EV.D} (h : t ∈ odd) : Thing n t := by
  refine ⟨?_, ?_, ?_, num_of⟩
  · simp only [odd, List.mem_cons, List.not_mem_nil, or_false] at h
    rcases h with rfl | rfl | rfl | rfl | rfl | rfl | rfl | rfl | rfl | rfl | rfl <;> exact ⟨_, rfl⟩
  · simp only [odd, List.mem_cons, List.not_mem_nil, or_false] at h
    rcases h with rfl | rfl | rfl | rfl | rfl | rfl | rfl | rfl | rfl | rfl | rfl
    · exact .inl (sh_non.mono (by omega) (by omega))
    · exact .inl ((sh_bl true).mono (by omega) (by omega))
    · exact .inl ((sh_int (by decide)).mono (by omega) (by omega))
    · exact .inl ((sh_int (by decide)).mono (by omega) (by omega))
    · exact .inl ((sh_int (by decide)).mono (by omega) (by omega))
    · exact .inl ((sh_int (by decide)).mono (by omega) (by omega))
    · exact .inl ((sh_str (by decide +kernel) (by decide +kernel)).mono (by omega) (by omega))
    · exact .inl (sh_tup (k := 0) (w := 41) (fun d hd => nomatch hd) (by simp))
    · exact .inl (sh_tup (k := 0) (w := 41) (fun d hd => by rw [List.mem_singleton] at hd; subst hd; exact sh_int (by decide)) (by simp))
    · exact .inl (sh_lst (k := 0) (w := 41) (fun d hd => by rw [List.mem_singleton] at hd; subst hd; exact sh_int (by decide)) (by simp))
    · exact .inr (shT_d.mono (by omega) (by omega))
  · have g := List.all_eq_true.mp odd_hd t h
    cases t with
    | str s =>
      simp only [odd, List.mem_cons, List.not_mem_nil, or_false] at h
      rcases h with h | h | h | h | h | h | h | h | h | h | h <;> first | exact .inl h | cases h
    | _ => exact .inr g
theorem reprX_mix {t : EV.D} (ht : Sh t 1 200 ∨ ShT t 1 200) (ds es : List EV.D) (h1 : ∀ x ∈ ds ++ es, Sh x 0 41 ∧ ShT x 0 41) (hz : (ds ++ t :: es).length ≤ 20) : ∃ s, dReprX [.tup (ds ++ t :: es)] = some (.str s) := by
  have spl : ∀ x ∈ ds ++ t :: es, x = t ∨ x ∈ ds ++ es := fun x hx => by
    rcases List.mem_append.mp hx with hx | hx
    · exact .inr (List.mem_append_left _ hx)
    · rcases List.mem_cons.mp hx with hx | hx
      · exact .inl hx
      · exact .inr (List.mem_append_right _ hx)
  rcases ht with ht | ht
  · refine reprX_sh (sh_tup (k := 1) (w := 200) (n := 5000) (fun x hx => ?_) (by omega))
    rcases spl x hx with rfl | hx
    · exact ht
    · exact ((h1 x hx).1).mono (by omega) (by omega)
  · refine reprX_shT (shT_tup (k := 1) (w := 200) (n := 5000) (fun x hx => ?_) (by omega))
    rcases spl x hx with rfl | hx
    · exact ht
    · exact ((h1 x hx).2).mono (by omega) (by omega)
theorem both_N {x : Nat} (h : x < 1000) : Sh (eN x) 0 41 ∧ ShT (eN x) 0 41 := ⟨sh_N (by omega), shT_N (by omega)⟩
theorem both_c : Sh (.str "claw") 0 41 ∧ ShT (.str "claw") 0 41 := ⟨sh_str (by decide +kernel) (by decide +kernel), shT_str (by decide +kernel) (by decide +kernel)⟩
section
variable {n : Nat} {ties : Ties} (w : WebOk n ties)
theorem J_hd {x : EV.D} {T : String} (h : tyNameX x = some T) (hT : isaT T "str" = false) : m_judge_claw [eWeb n ties, .tup [x]] = pure rForm := by
  rw [un_judge_claw]
  refine bind_of (a := Out.rt rForm) (seq_rt (yes_if (or_f (not_b (isi_b (T := "tuple") (t := "tuple") rfl rfl)) (or_f (len_in (ds := [x]) rfl) ((not_b (isi_b (T := "str") (x := x) (bind_of (a := EV.D.tup [x]) rfl (bind_of (a := eN 0) rfl (by rw [ix_tup 0 rfl]; rfl))) h)).trans (by rw [hT]; rfl)))) rfl)) rfl
include w
theorem fin_nil : Fin n ties (.tup []) := by
  obtain ⟨s, hs⟩ := reprX_sh (sh_tup (k := 0) (w := 41) (n := 100) (ds := []) (fun d hd => nomatch hd) (by simp))
  exact fin_form w (L_bad nil_hd) (J_len ⟨by simp, by simp⟩) hs
theorem fin_thing {t : EV.D} (h : t ∈ odd) : Fin n ties t := by
  have T := thing n h
  obtain ⟨s, hs⟩ : ∃ s, dReprX [t] = some (.str s) := T.sh.elim (fun h => reprX_sh h) fun h => reprX_shT h
  have hb := T.hd
  simp only [odd, List.mem_cons, List.not_mem_nil, or_false] at h
  rcases h with rfl | rfl | rfl | rfl | rfl | rfl | rfl | rfl | rfl | rfl | rfl
  · exact fin_nt w rfl rfl hs
  · exact fin_nt w rfl rfl hs
  · exact fin_nt w rfl rfl hs
  · exact fin_nt w rfl rfl hs
  · exact fin_nt w rfl rfl hs
  · exact fin_nt w rfl rfl hs
  · exact fin_nt w rfl rfl hs
  · exact fin_nil w
  · exact fin_form w (L_bad ((thing n (t := .int 0) (by simp [odd])).hd.resolve_left (fun e => nomatch e))) (J_hd rfl rfl) hs
  · exact fin_nt w rfl rfl hs
  · exact fin_nt w rfl rfl hs
/-- a claw with one thing among its places -/
theorem fin_mix {t : EV.D} (h : t ∈ odd) (as bs : Lot) (ha : ∀ x ∈ as, x < n) (hb : ∀ x ∈ bs, x < n) (hl : as.length + bs.length = 3) : Fin n ties (.tup (.str "claw" :: (as.map eN ++ t :: bs.map eN))) := by
  have n12 := w.n12
  have T := thing n h
  cases q : badX n t with
  | false =>
    obtain ⟨k, rfl, hk⟩ := T.num q
    have e : as.map eN ++ eN k :: bs.map eN = (as ++ k :: bs).map eN := by rw [List.map_append, List.map_cons]
    rw [e]
    refine fin_nums w (as ++ k :: bs) (fun x hx => ?_) (by rw [List.length_append, List.length_cons]; omega) (by simp)
    rcases List.mem_append.mp hx with hx | hx
    · exact ha x hx
    · rcases List.mem_cons.mp hx with rfl | hx
      · exact hk
      · exact hb x hx
  | true =>
    have hlen : (as.map eN ++ t :: bs.map eN).length = 4 := by rw [List.length_append, List.length_cons, List.length_map, List.length_map]; omega
    have hT : ∀ x ∈ as.map eN ++ t :: bs.map eN, ∃ T, tyNameX x = some T := fun x hx => by
      rcases List.mem_append.mp hx with hx | hx
      · obtain ⟨y, _, rfl⟩ := List.mem_map.mp hx
        exact ⟨_, rfl⟩
      · rcases List.mem_cons.mp hx with rfl | hx
        · exact T.ty
        · obtain ⟨y, _, rfl⟩ := List.mem_map.mp hx
          exact ⟨_, rfl⟩
    have hbad : ∃ x ∈ as.map eN ++ t :: bs.map eN, badX n x = true := ⟨t, List.mem_append_right _ List.mem_cons_self, q⟩
    obtain ⟨s, hs⟩ := reprX_mix T.sh (.str "claw" :: as.map eN) (bs.map eN) (fun x hx => by
      rcases List.mem_append.mp hx with hx | hx
      · rcases List.mem_cons.mp hx with rfl | hx
        · exact both_c
        · obtain ⟨y, hy, rfl⟩ := List.mem_map.mp hx
          exact both_N (by have := ha y hy; omega)
      · obtain ⟨y, hy, rfl⟩ := List.mem_map.mp hx
        exact both_N (by have := hb y hy; omega)) (by rw [List.length_append, List.length_cons, List.length_cons, List.length_map, List.length_map]; omega)
    exact fin_form w (L_c5_bad _ hlen hT hbad) (J_bad _ hlen hT hbad) hs
theorem fin_head {t : EV.D} (h : t ∈ odd) {c : Nat} (hc : c < n) : Fin n ties (.tup [t, eN c]) := by
  have n12 := w.n12
  have T := thing n h
  obtain ⟨s, hs⟩ := reprX_mix T.sh [] [eN c] (fun x hx => by rw [List.nil_append, List.mem_singleton] at hx; subst hx; exact both_N (by omega)) (by simp)
  refine fin_form w ?_ (J_len ⟨by simp, by simp⟩) hs
  rcases T.hd with rfl | hb
  · exact L_free2 (rok w) _ _
  · exact L_bad hb
theorem fin_free0 : Fin n ties (.tup [.str "free", eN 0]) := by
  obtain ⟨s, hs⟩ := reprX_sh (sh_nums "free" (by decide +kernel) (by decide +kernel) [0] (fun y hy => by rw [List.mem_singleton] at hy; omega) (by simp))
  exact fin_form w (L_free2 (rok w) _ _) (J_len ⟨by simp, by simp⟩) hs
theorem fin_told0 {ds : List EV.D} (h : told (claws (rowsA n ties)) = .tup ds) : Fin n ties (.tup (ds ++ [eN 0])) := by
  have hlt := claws_lt w
  have := w.pos
  cases e : claws (rowsA n ties) with
  | nil =>
    rw [e] at h
    cases h
    exact fin_free0 w
  | cons q qs =>
    rw [e] at h hlt
    cases h
    obtain ⟨l1, l2, l3, l4⟩ := hlt q List.mem_cons_self
    exact fin_nums w [q.1, q.2.1, q.2.2.1, q.2.2.2, 0] (fun x hx => by
      simp only [List.mem_cons, List.not_mem_nil, or_false] at hx
      omega) (by simp) (by simp)
theorem fin_list {ds : List EV.D} (h : told (claws (rowsA n ties)) = .tup ds) : Fin n ties (.lst ds) := by
  have n12 := w.n12
  have hlt := claws_lt w
  have sh : Sh (.lst ds) 1 500 := by
    cases e : claws (rowsA n ties) with
    | nil =>
      rw [e] at h
      cases h
      exact sh_lst (k := 0) (w := 41) (fun d hd => by rw [List.mem_singleton] at hd; subst hd; exact sh_str (by decide +kernel) (by decide +kernel)) (by simp)
    | cons q qs =>
      rw [e] at h hlt
      cases h
      obtain ⟨l1, l2, l3, l4⟩ := hlt q List.mem_cons_self
      refine sh_lst (k := 0) (w := 41) (fun d hd => ?_) (by simp)
      simp only [List.mem_cons, List.not_mem_nil, or_false] at hd
      rcases hd with rfl | rfl | rfl | rfl | rfl
      · exact sh_str (by decide +kernel) (by decide +kernel)
      · exact sh_N (by omega)
      · exact sh_N (by omega)
      · exact sh_N (by omega)
      · exact sh_N (by omega)
  obtain ⟨s, hs⟩ := reprX_sh sh
  exact fin_nt w rfl rfl hs
end
end
end K20

namespace K20
open PySem PySem.Spec PyProof.Rows L2 L2.EV
noncomputable section
def leIN (a b : Int × Nat) : Bool := decide (a.1 < b.1 ∨ (a.1 = b.1 ∧ a.2 ≤ b.2))
theorem sortedIN (xs : List (Int × Nat)) : dSorted [eL (eP D.int eN) xs] = some (eL (eP D.int eN) (xs.mergeSort leIN)) := by
  have py : ∀ p : Int × Nat, pyD (eP D.int eN p) = .tuple [.int p.1, .int p.2] := fun p => by simp [pyD, eP, eN, D.py, pyAll]
  have c : (∀ x ∈ xs.map (eP D.int eN), (D.py x).isSome = true ∧ (pyD x).depth ≤ 40) ∧ PySem.W.AllAlike ((xs.map (eP D.int eN)).map pyD) ∧ PySem.W.Sortable ((xs.map (eP D.int eN)).map pyD) := by
    refine ⟨fun x hx => ?_, fun d hd d' hd' => ?_, .inl fun d hd => ?_⟩
    · obtain ⟨n, _, rfl⟩ := List.mem_map.mp hx
      rw [py]
      simp [eP, eN, D.py, pyAll, PyData.depth, PyData.depthAll]
    · obtain ⟨x, hx, rfl⟩ := List.mem_map.mp hd
      obtain ⟨y, hy, rfl⟩ := List.mem_map.mp hd'
      obtain ⟨n, _, rfl⟩ := List.mem_map.mp hx
      obtain ⟨m, _, rfl⟩ := List.mem_map.mp hy
      rw [py, py]
      simp [PySem.W.alike, PySem.W.alikeAll]
    · obtain ⟨x, hx, rfl⟩ := List.mem_map.mp hd
      obtain ⟨n, _, rfl⟩ := List.mem_map.mp hx
      exact ⟨_, _, py n⟩
  unfold dSorted eL
  simp only
  rw [if_pos c]
  congr 2
  have q := List.map_mergeSort (r := leIN) (s := PySem.W.dataLe false pyD) (f := eP D.int eN) (l := xs) fun a _ b _ => by
    have h2 := congrFun (congrFun (PySem.W.dataLe_ii (fun p : Int × Nat => p.1) (fun p : Int × Nat => (p.2 : Int))) a) b
    show _ = !PySem.W.dataLt (pyD (eP D.int eN b)) (pyD (eP D.int eN a))
    rw [py, py]
    have h3 : (!PySem.W.dataLt (.tuple [.int b.1, .int (b.2 : Int)]) (.tuple [.int a.1, .int (a.2 : Int)])) = _ := h2
    rw [h3]
    exact decide_eq_decide.mpr (by omega)
  exact q.symm
theorem sh_web {n : Nat} {ties : Ties} (w : WebOk n ties) : Sh (eWeb n ties) 3 50000 := by
  have n12 := w.n12
  have hz := w.sz
  refine sh_tup (k := 2) (w := 21000) (fun d hd => ?_) (by simp)
  rcases List.mem_cons.mp hd with rfl | hd
  · exact (sh_N (by omega)).mono (by omega) (by omega)
  · rw [List.mem_singleton] at hd
    subst hd
    refine sh_T (k := 1) (w := 100) (fun p hp => sh_tup (k := 0) (w := 41) (fun d hd => ?_) (by simp)) (by omega)
    have := w.lt p hp
    simp only [List.mem_cons, List.not_mem_nil, or_false] at hd
    rcases hd with rfl | rfl
    · exact sh_N (by omega)
    · exact sh_N (by omega)
theorem neS_same (t : Str) : dNeS (.str t) (.str t) = some (.bl false) := by
  show some (EV.D.bl (!(t == t))) = _
  rw [beq_self_eq_true]; rfl
theorem told_tup (xs : List Q4) : ∃ t ds, told xs = .tup (.str t :: ds) := by
  cases xs with
  | nil => exact ⟨_, _, rfl⟩
  | cons q qs => exact ⟨_, _, rfl⟩
abbrev E21 (n : Nat) (ties : Ties) (rows : Rows) (kept : Str) (told : EV.D) (c3 c7 c8 c9 c10 c11 c15 c16 c17 c18 : Option Cell) : Ev :=
  [none, some (.s .src), some (.s (eL id odd)), c3, some (.s (eN n)), some (.s (eWeb n ties)), some (.s (eL e4 (claws rows))), c7, c8, c9, c10, c11, some (.s (.str kept)), some (.s (eRows rows)), some (.s told), c15, c16, c17, c18, none, none]
section
variable {n : Nat} {ties : Ties} (w : WebOk n ties)
include w
theorem value_ok {v : EV.D} (h : Fin n ties v) (kept : Str) (c3 c7 c8 c9 c10 c15 c16 c17 c18 : Option Cell) :
    ∃ d17 d18, bd_law_1 (E21 n ties (rowsA n ties) kept (told (claws (rowsA n ties))) c3 c7 c8 c9 c10 (some (.s v)) c15 c16 c17 c18) = pure (.nx (E21 n ties (rowsA n ties) kept (told (claws (rowsA n ties))) c3 c7 c8 c9 c10 (some (.s v)) c15 c16 d17 d18)) := by
  obtain ⟨r, s1, s2, h1, h2, h3, h4, h5⟩ := h.ex
  refine ⟨some (.s (.str s1)), some (.s r), ?_⟩
  refine seq_nx (ρ' := E21 n ties (rowsA n ties) kept (told (claws (rowsA n ties))) c3 c7 c8 c9 c10 (some (.s v)) c15 c16 (some (.s (.str s1))) (some (.s r))) (bind_of (a := [Cell.s (.str s1), .s r]) (bind_of (a := .str s1) (bind_of (a := [v]) rfl (by rw [h3]; rfl)) (bind_of (a := [Cell.s r]) (bind_of (a := r) (bind_of (a := [eWeb n ties, eRows (rowsA n ties), v]) rfl h1) rfl) rfl)) rfl) ?_
  refine seq_nx (no_if (or_f (bind_of (a := .bl false) (bind_of (a := .str s2) (bind_of (a := [r]) (bind_of (a := r) (bind_of (a := [eWeb n ties, v]) rfl h2) rfl) (by rw [h4]; rfl)) (bind_of (a := .str s2) (bind_of (a := [r]) rfl (by rw [h4]; rfl)) (by rw [neS_same]; rfl))) rfl) (bind_of (a := .bl false) (bind_of (a := .str s1) (bind_of (a := [v]) rfl (by rw [h3]; rfl)) (bind_of (a := .str s1) rfl (by rw [neS_same]; rfl))) rfl)) rfl) ?_
  rcases h5 with h5 | ⟨h5, d, hv, ht, hd⟩
  · exact no_if (bind_of (a := false) (bind_of (a := .bl false) (bind_of (a := r) rfl (bind_of (a := .non) rfl (by rw [h5]; rfl))) rfl) rfl) rfl
  · exact no_if (bind_of (a := true) (bind_of (a := .bl true) (bind_of (a := r) rfl (bind_of (a := .non) rfl (by rw [h5]; rfl))) rfl) (bind_of (a := .bl false) (bind_of (a := d) (bind_of (a := v) rfl (bind_of (a := eN 0) rfl (by rw [hv]; rfl))) (bind_of (a := d) (bind_of (a := told (claws (rowsA n ties))) rfl (bind_of (a := eN 0) rfl (by rw [ht]; rfl))) (by rw [hd]; rfl))) rfl)) rfl
/-- the loop over all values -/
theorem loop_ok (vs : List EV.D) (h : ∀ v ∈ vs, Fin n ties v) (kept : Str) (c3 c7 c8 c9 c11 c15 c16 c17 c18 : Option Cell) (S : Src) :
    wp (sFrz 10 (sFor (iSeq (eVar 10)) (gN 11) bd_law_1) (E21 n ties (rowsA n ties) kept (told (claws (rowsA n ties))) c3 c7 c8 c9 (some (.o (.lst vs))) c11 c15 c16 c17 c18)) S fun o _ => ∃ c10 c11 c17 c18, o = .nx (E21 n ties (rowsA n ties) kept (told (claws (rowsA n ties))) c3 c7 c8 c9 c10 c11 c15 c16 c17 c18) := by
  refine wp_bind.mpr (wp_of_eq (d := vs.map id) (bind_of (a := .lst vs) rfl (by rw [List.map_id]; rfl)) ?_)
  refine wp_for id (fun _ ρ _ => ∃ c11 c17 c18, ρ = E21 n ties (rowsA n ties) kept (told (claws (rowsA n ties))) c3 c7 c8 c9 (some (.s (.lst vs))) c11 c15 c16 c17 c18) ⟨c11, c17, c18, rfl⟩ ?_ ?_
  · rintro i v ρ S1 hi ⟨c11, c17, c18, rfl⟩
    obtain ⟨c17', c18', e⟩ := value_ok w (h v (List.mem_of_getElem? hi)) kept c3 c7 c8 c9 (some (.s (.lst vs))) c15 c16 c17 c18
    exact ⟨_, rfl, wp_of_eq e ⟨_, _, _, rfl⟩⟩
  · rintro ρ S1 ⟨c11, c17, c18, rfl⟩
    exact ⟨_, _, _, _, rfl⟩
end
end
end K20

namespace K20
open PySem PySem.Spec PyProof.Rows L2 L2.EV
noncomputable section
section
variable {n : Nat} {ties : Ties} (w : WebOk n ties)
include w
theorem wide_ok (kept : Str) (c3 c7 c8 c9 c10 c11 c15 c16 c17 c18 : Option Cell) : ∃ wd, wd < n ∧ eBin dIx (eBin dIx (eCall dSorted (aCons (eLc [20] (iSh (iRng rng1 (aCons (eVarI 4) aNil))) (gN 20) bYes ce_law_2) aNil)) (eC (.int 0))) (eC (.int 1)) (E21 n ties (rowsA n ties) kept (told (claws (rowsA n ties))) c3 c7 c8 c9 c10 c11 c15 c16 c17 c18) = pure (eN wd) := by
  have n12 := w.n12
  have pos := w.pos
  have hl := rowsA_len n ties
  generalize hxs : (List.range n).map (fun a => ((0 : Int) - ((nb (rowsA n ties) a).length : Nat), a)) = xs
  have hm : xs.mergeSort leIN ≠ [] := fun e => by
    have := congrArg List.length e
    rw [List.length_mergeSort, ← hxs, List.length_map, List.length_range] at this
    simp at this
    omega
  cases e : xs.mergeSort leIN with
  | nil => exact absurd e hm
  | cons p ps =>
    have hp : p ∈ xs := List.mem_mergeSort.mp (by rw [e]; exact List.mem_cons_self)
    rw [← hxs] at hp
    obtain ⟨a, ha, rfl⟩ := List.mem_map.mp hp
    refine ⟨a, List.mem_range.mp ha, ?_⟩
    have e1 : eLc [20] (iSh (iRng rng1 (aCons (eVarI 4) aNil))) (gN 20) bYes ce_law_2 (E21 n ties (rowsA n ties) kept (told (claws (rowsA n ties))) c3 c7 c8 c9 c10 c11 c15 c16 c17 c18) = pure (eL (eP D.int eN) xs) := by
      refine bind_of (a := (List.range n).map eN) (bind_of (a := (List.range n).map eN) (bind_of (a := [eN n]) rfl (by rw [rng1_N n (by omega)]; rfl)) (by rw [short_map (by rw [List.length_range, sizeLine_eq]; omega)]; rfl)) (bind_of (comp_map eN (fun a => eP D.int eN ((0 : Int) - ((nb (rowsA n ties) a).length : Nat), a)) fun b hb => ⟨_, rfl, ?_⟩) (by rw [← hxs]; unfold eL; rw [List.map_map]; rfl))
      have hb := List.mem_range.mp hb
      refine bind_of (a := [.int ((0 : Int) - ((nb (rowsA n ties) b).length : Nat)), eN b]) (bind_of (a := .int ((0 : Int) - ((nb (rowsA n ties) b).length : Nat))) (bind_of (a := .int 0) rfl (bind_of (a := eN (nb (rowsA n ties) b).length) (bind_of (a := [eL eN (nb (rowsA n ties) b)]) (bind_of (row_ix (a := b) rfl rfl (by omega)) rfl) (by rw [dLen_L]; rfl)) rfl)) rfl) rfl
    refine bind_of (a := eP D.int eN ((0 : Int) - ((nb (rowsA n ties) a).length : Nat), a)) (bind_of (a := eL (eP D.int eN) (((0 : Int) - ((nb (rowsA n ties) a).length : Nat), a) :: ps)) (bind_of (a := [eL (eP D.int eN) xs]) (bind_of e1 rfl) (by rw [sortedIN, e]; rfl)) (bind_of (a := eN 0) rfl (by rw [show dIx (eL (eP D.int eN) (((0 : Int) - ((nb (rowsA n ties) a).length : Nat), a) :: ps)) (eN 0) = _ from dIx_L (e := eP D.int eN) 0 rfl]; rfl))) (bind_of (a := eN 1) rfl rfl)
def clL (rows : Rows) : List Lot := (claws rows).map fun q => [q.1, q.2.1, q.2.2.1, q.2.2.2]
omit w in
theorem cl_lots (rows : Rows) : eL e4 (claws rows) = eL eLot (clL rows) := by
  unfold eL clL
  rw [List.map_map]; rfl
set_option maxHeartbeats 2000000 in
/-- from the drawn places on -/
theorem part_values (kept : Str) (c3 c7 c8 c9 c10 c11 c15 c16 c17 c18 : Option Cell) (S : Src) (hk : dReprX [eWeb n ties] = some (.str kept)) :
    wp (tl_law_10 (E21 n ties (rowsA n ties) kept (told (claws (rowsA n ties))) c3 c7 c8 c9 c10 c11 c15 c16 c17 c18)) S fun o _ => ∃ c7 c8 c9 c10 c11 c15 c16 c17 c18, o = .nx (E21 n ties (rowsA n ties) kept (told (claws (rowsA n ties))) c3 c7 c8 c9 c10 c11 c15 c16 c17 c18) := by
  have n12 := w.n12
  have pos := w.pos
  have R := rok w
  have hl := rowsA_len n ties
  obtain ⟨tt, tds, htold⟩ := told_tup (claws (rowsA n ties))
  -- some
  refine wp_bind.mpr (wp_bind.mpr (wp_bind.mpr (wp_bind.mpr (wp_bind.mpr (wp_of_eq (d := (List.range 3).map eN) rfl (wp_bind.mpr ?_))))))
  refine wp_comp eN (fun i acc S3 => ∃ l : Lot, acc = l.map eN ∧ l.length = i ∧ ∀ x ∈ l, x < n) ⟨[], rfl, rfl, fun p h => nomatch h⟩ ?_ ?_
  · rintro i a acc S3 hi ⟨l, rfl, hl3, hlt⟩
    refine ⟨_, rfl, wp_of_eq (d := true) rfl ?_⟩
    rw [if_pos rfl]
    refine wp_pick (k := n) pos (by omega) rfl S3 fun r S4 hr => ⟨l ++ [r], by rw [List.map_append]; rfl, by rw [List.length_append, hl3]; rfl, fun x hx => ?_⟩
    rcases List.mem_append.mp hx with hx | hx
    · exact hlt x hx
    · rw [List.mem_singleton] at hx; subst hx; exact hr
  rintro acc S3 ⟨l0, rfl, hl3, hlt0⟩
  refine wp_of_eq (d := eL eN l0) rfl (wp_of_eq (d := [eL eN l0]) rfl (wp_of_eq (d := eL eN (srt l0)) (by rw [EV.sorted_ints]; rfl) ?_))
  have hs3 : (srt l0).length = 3 := by unfold srt; rw [List.length_mergeSort, hl3]; rfl
  have hslt : ∀ x ∈ srt l0, x < n := fun x hx => hlt0 x ((mem_srt _ _).mp hx)
  obtain ⟨x, y, z, hxyz⟩ : ∃ x y z, srt l0 = [x, y, z] := by
    match srt l0, hs3 with
    | [x, y, z], _ => exact ⟨x, y, z, rfl⟩
  rw [hxyz] at hslt ⊢
  have hx := hslt x (by simp)
  have hy := hslt y (by simp)
  have hz := hslt z (by simp)
  refine wp_of_eq (d := Out.nx (E21 n ties (rowsA n ties) kept (told (claws (rowsA n ties))) c3 (some (.s (eL eN [x, y, z]))) c8 c9 c10 c11 c15 c16 c17 c18)) rfl ?_
  -- c, thing
  refine wp_bind.mpr (wp_bind.mpr (wp_bind.mpr (wp_pick (k := n) pos (by omega) rfl S3 fun c S4 hc => wp_bind.mpr (wp_bind.mpr (wp_of_L id odd (by decide) (by decide) rfl S4 fun t S5 ht => ?_)))))
  refine wp_of_eq (d := [Cell.s t]) rfl (wp_of_eq (d := [Cell.s (eN c), .s t]) rfl (wp_of_eq (d := Out.nx (E21 n ties (rowsA n ties) kept (told (claws (rowsA n ties))) c3 (some (.s (eL eN [x, y, z]))) c8 c9 c10 c11 (some (.s (eN c))) (some (.s t)) c17 c18)) rfl ?_))
  -- wide
  obtain ⟨wd, hwd, ew⟩ := wide_ok w kept c3 (some (.s (eL eN [x, y, z]))) c8 c9 c10 c11 (some (.s (eN c))) (some (.s t)) c17 c18
  refine wp_bind.mpr (wp_of_eq (d := Out.nx (E21 n ties (rowsA n ties) kept (told (claws (rowsA n ties))) c3 (some (.s (eL eN [x, y, z]))) (some (.s (eN wd))) c9 c10 c11 (some (.s (eN c))) (some (.s t)) c17 c18)) (bind_of ew rfl) ?_)
  -- late
  have hlen := R.len wd
  refine wp_bind.mpr (wp_bind.mpr (wp_bind.mpr (wp_bind.mpr (wp_bind.mpr (wp_bind.mpr (wp_of_eq (d := [.src, eL eN (nb (rowsA n ties) wd)]) (bind_of (a := .src) rfl (bind_of (a := [eL eN (nb (rowsA n ties) wd)]) (bind_of (row_ix (a := wd) rfl rfl (by omega)) rfl) rfl)) (wp_mono (order_spec (nb (rowsA n ties) wd) (by omega) S5) ?_)))))))
  rintro _ S6 ⟨names, rfl, hp⟩
  have hnl : (names.take 3).length ≤ 3 := by rw [List.length_take]; omega
  have hnlt : ∀ a ∈ names.take 3, a < n := fun a ha => by
    have := R.lt wd a (hp.mem_iff.mp (List.mem_of_mem_take ha))
    omega
  refine wp_of_eq (d := eL eN (names.take 3)) (bind_of (a := none) rfl (bind_of (a := some ((3 : Nat) : Int)) rfl (by show M.of (some (EV.D.lst (cutG (names.map eN) none (some ((3 : Nat) : Int))))) = _; rw [cut_take, ← List.map_take]; rfl))) (wp_of_eq (d := [eL eN (names.take 3)]) rfl (wp_of_eq (d := eL eN (srt (names.take 3))) (by rw [EV.sorted_ints]; rfl) ?_))
  generalize hlate : srt (names.take 3) = late
  have hll : late.length ≤ 3 := by rw [← hlate]; unfold srt; rw [List.length_mergeSort]; exact hnl
  have hllt : ∀ a ∈ late, a < n := fun a ha => hnlt a ((mem_srt _ _).mp (hlate ▸ ha))
  refine wp_of_eq (d := Out.nx (E21 n ties (rowsA n ties) kept (told (claws (rowsA n ties))) c3 (some (.s (eL eN [x, y, z]))) (some (.s (eN wd))) (some (.s (eL eN late))) c10 c11 (some (.s (eN c))) (some (.s t)) c17 c18)) rfl ?_
  generalize hv1 : ([told (claws (rowsA n ties)), .tup [.str "free"], .tup (.str "claw" :: [c, x, y, z].map eN), .tup (.str "claw" :: (wd :: late).map eN), .lst (.str tt :: tds), .tup ((.str tt :: tds) ++ [eN 0])] : List EV.D) = v1
  generalize hv2 : ([.tup (.str "claw" :: [c, z, y, x].map eN), .non, .tup [], t, .str "free", .tup (.str "claw" :: (([] : Lot).map eN ++ t :: [x, y, z].map eN))] : List EV.D) = v2
  generalize hv3 : ([.tup (.str "claw" :: ([c, x].map eN ++ t :: [z].map eN)), .tup [t, eN c], .tup [.str "free", eN 0]] : List EV.D) = v3
  have tsz : (.str tt :: tds : List EV.D).length ≤ 9 := by
    cases e : claws (rowsA n ties) with
    | nil => rw [e] at htold; cases htold; simp
    | cons q qs => rw [e] at htold; cases htold; simp
  have add2 : ∀ {f g : Ev → M EV.D} {ρ : Ev} {as bs : List EV.D}, f ρ = pure (.tup as) → g ρ = pure (.tup bs) → as.length + bs.length ≤ 100 → eBin dAdd f g ρ = pure (.tup (as ++ bs)) := fun hf hg hz => bind_of hf (bind_of hg (by rw [add_tup (by rw [sizeLine_eq]; omega)]; rfl))
  refine wp_bind.mpr (wp_of_eq (d := Out.nx (E21 n ties (rowsA n ties) kept (told (claws (rowsA n ties))) c3 (some (.s (eL eN [x, y, z]))) (some (.s (eN wd))) (some (.s (eL eN late))) (some (.o (.lst v1))) c11 (some (.s (eN c))) (some (.s t)) c17 c18)) (bind_of (a := .lst v1) ?_ rfl) ?_)
  · rw [← hv1]
    refine bind_of (a := ([told (claws (rowsA n ties)), .tup [.str "free"], .tup (.str "claw" :: [c, x, y, z].map eN), .tup (.str "claw" :: (wd :: late).map eN), .lst (.str tt :: tds), .tup ((.str tt :: tds) ++ [eN 0])] : List EV.D)) ?_ rfl
    refine bind_of (a := told (claws (rowsA n ties))) rfl (bind_of (a := ([.tup [.str "free"], .tup (.str "claw" :: [c, x, y, z].map eN), .tup (.str "claw" :: (wd :: late).map eN), .lst (.str tt :: tds), .tup ((.str tt :: tds) ++ [eN 0])] : List EV.D)) ?_ rfl)
    refine bind_of (a := .tup [.str "free"]) rfl (bind_of (a := ([.tup (.str "claw" :: [c, x, y, z].map eN), .tup (.str "claw" :: (wd :: late).map eN), .lst (.str tt :: tds), .tup ((.str tt :: tds) ++ [eN 0])] : List EV.D)) ?_ rfl)
    refine bind_of (add2 (as := [.str "claw", eN c]) (bs := [eN x, eN y, eN z]) rfl rfl (by simp)) (bind_of (a := ([.tup (.str "claw" :: (wd :: late).map eN), .lst (.str tt :: tds), .tup ((.str tt :: tds) ++ [eN 0])] : List EV.D)) ?_ rfl)
    refine bind_of (add2 (as := [.str "claw", eN wd]) (bs := late.map eN) rfl rfl (by rw [List.length_map]; simp; omega)) (bind_of (a := ([.lst (.str tt :: tds), .tup ((.str tt :: tds) ++ [eN 0])] : List EV.D)) ?_ rfl)
    refine bind_of (a := .lst (.str tt :: tds)) (bind_of (a := [.tup (.str tt :: tds)]) (bind_of (a := .tup (.str tt :: tds)) (by rw [htold]; rfl) rfl) rfl) (bind_of (a := ([.tup ((.str tt :: tds) ++ [eN 0])] : List EV.D)) ?_ rfl)
    exact bind_of (add2 (as := .str tt :: tds) (bs := [eN 0]) (by rw [htold]; rfl) rfl (by rw [List.length_singleton]; omega)) rfl
  refine wp_bind.mpr (wp_of_eq (d := Out.nx (E21 n ties (rowsA n ties) kept (told (claws (rowsA n ties))) c3 (some (.s (eL eN [x, y, z]))) (some (.s (eN wd))) (some (.s (eL eN late))) (some (.o (.lst (v1 ++ v2)))) c11 (some (.s (eN c))) (some (.s t)) c17 c18)) (bind_of (a := .lst (v1 ++ v2)) (bind_of (a := .lst v1) rfl (bind_of (a := .lst v2) ?_ ?_)) rfl) ?_)
  · rw [← hv2]
    refine bind_of (a := ([.tup (.str "claw" :: [c, z, y, x].map eN), .non, .tup [], t, .str "free", .tup (.str "claw" :: (([] : Lot).map eN ++ t :: [x, y, z].map eN))] : List EV.D)) ?_ rfl
    refine bind_of (add2 (as := [.str "claw", eN c]) (bs := [eN z, eN y, eN x]) rfl rfl (by simp)) (bind_of (a := ([.non, .tup [], t, .str "free", .tup (.str "claw" :: (([] : Lot).map eN ++ t :: [x, y, z].map eN))] : List EV.D)) ?_ rfl)
    refine bind_of (a := .non) rfl (bind_of (a := ([.tup [], t, .str "free", .tup (.str "claw" :: (([] : Lot).map eN ++ t :: [x, y, z].map eN))] : List EV.D)) ?_ rfl)
    refine bind_of (a := .tup []) rfl (bind_of (a := ([t, .str "free", .tup (.str "claw" :: (([] : Lot).map eN ++ t :: [x, y, z].map eN))] : List EV.D)) ?_ rfl)
    refine bind_of (a := t) rfl (bind_of (a := ([.str "free", .tup (.str "claw" :: (([] : Lot).map eN ++ t :: [x, y, z].map eN))] : List EV.D)) ?_ rfl)
    refine bind_of (a := .str "free") rfl (bind_of (a := ([.tup (.str "claw" :: (([] : Lot).map eN ++ t :: [x, y, z].map eN))] : List EV.D)) ?_ rfl)
    exact bind_of (add2 (as := [.str "claw", t]) (bs := [eN x, eN y, eN z]) rfl rfl (by simp)) rfl
  · show M.of (if v1.length + v2.length ≤ sizeLine then _ else _) = _
    rw [if_pos (by rw [← hv1, ← hv2, sizeLine_eq]; simp)]; rfl
  refine wp_bind.mpr (wp_of_eq (d := Out.nx (E21 n ties (rowsA n ties) kept (told (claws (rowsA n ties))) c3 (some (.s (eL eN [x, y, z]))) (some (.s (eN wd))) (some (.s (eL eN late))) (some (.o (.lst ((v1 ++ v2) ++ v3)))) c11 (some (.s (eN c))) (some (.s t)) c17 c18)) (bind_of (a := .lst ((v1 ++ v2) ++ v3)) (bind_of (a := .lst (v1 ++ v2)) rfl (bind_of (a := .lst v3) ?_ ?_)) rfl) ?_)
  · rw [← hv3]; rfl
  · show M.of (if (v1 ++ v2).length + v3.length ≤ sizeLine then _ else _) = _
    rw [if_pos (by rw [← hv1, ← hv2, ← hv3, sizeLine_eq]; simp)]; rfl
  -- the last value
  have hcl : (clL (rowsA n ties)).length ≤ 20736 := by unfold clL; rw [List.length_map]; exact claws_len R
  have ea : (aCons (eVar 1) (aCons (eBin dAdd (eVarI 6) (eLst (aCons (eTup (aCons (eC (.int 0)) (aCons (eC (.int 0)) aNil))) aNil))) aNil)) (E21 n ties (rowsA n ties) kept (told (claws (rowsA n ties))) c3 (some (.s (eL eN [x, y, z]))) (some (.s (eN wd))) (some (.s (eL eN late))) (some (.o (.lst ((v1 ++ v2) ++ v3)))) c11 (some (.s (eN c))) (some (.s t)) c17 c18) = pure [.src, eL eLot (clL (rowsA n ties) ++ [[0, 0]])] := by
    refine bind_of (a := EV.D.src) rfl (bind_of (a := [eL eLot (clL (rowsA n ties) ++ [[0, 0]])]) (bind_of (a := eL eLot (clL (rowsA n ties) ++ [[0, 0]])) (bind_of (a := eL eLot (clL (rowsA n ties))) (by rw [← cl_lots]; rfl) (bind_of (a := eL eLot [[0, 0]]) rfl (by rw [dAdd_L (by rw [List.length_singleton, sizeLine_eq]; omega)]; rfl))) rfl) rfl)
  refine wp_bind.mpr (wp_bind.mpr (wp_bind.mpr (wp_bind.mpr (wp_of_eq (d := .tup [.str "claw"]) rfl (wp_bind.mpr (wp_of_L eLot (clL (rowsA n ties) ++ [[0, 0]]) (by rw [List.length_append, List.length_singleton]; omega) (by rw [List.length_append, List.length_singleton]; omega) ea S6 fun L S7 hL => ?_))))))
  have hLf : (∀ a ∈ L, a < n) ∧ L.length ≤ 9 ∧ L ≠ [] := by
    rcases List.mem_append.mp hL with hL | hL
    · obtain ⟨q, hq, rfl⟩ := List.mem_map.mp hL
      obtain ⟨l1, l2, l3, l4⟩ := claws_lt w q hq
      exact ⟨fun a ha => by simp only [List.mem_cons, List.not_mem_nil, or_false] at ha; omega, by simp, by simp⟩
    · rw [List.mem_singleton] at hL
      subst hL
      exact ⟨fun a ha => by simp only [List.mem_cons, List.not_mem_nil, or_false] at ha; omega, by simp, by simp⟩
  refine wp_of_eq (d := .tup (.str "claw" :: L.map eN)) (by rw [show dAdd (.tup [.str "claw"]) (eLot L) = some (.tup ([.str "claw"] ++ L.map eN)) from add_tup (by rw [List.length_map, sizeLine_eq]; simp; omega)]; rfl) (wp_of_eq (d := [.tup (.str "claw" :: L.map eN)]) rfl ?_)
  generalize hvs : ((v1 ++ v2) ++ v3) ++ [.tup (.str "claw" :: L.map eN)] = vs
  refine wp_of_eq (d := Out.nx (E21 n ties (rowsA n ties) kept (told (claws (rowsA n ties))) c3 (some (.s (eL eN [x, y, z]))) (some (.s (eN wd))) (some (.s (eL eN late))) (some (.o (.lst vs))) c11 (some (.s (eN c))) (some (.s t)) c17 c18)) ?_ ?_
  · show M.of ((hAppend (.lst ((v1 ++ v2) ++ v3)) [.tup (.str "claw" :: L.map eN)]).map _) = _
    rw [show hAppend (.lst ((v1 ++ v2) ++ v3)) [.tup (.str "claw" :: L.map eN)] = some (.lst (((v1 ++ v2) ++ v3) ++ [.tup (.str "claw" :: L.map eN)]), .non) from (if_pos (by rw [← hv1, ← hv2, ← hv3, sizeLine_eq]; simp)), hvs]; rfl
  have hfin : ∀ v ∈ vs, Fin n ties v := fun v hv => by
    have four : ∀ {a b c d : Nat}, a < n → b < n → c < n → d < n → ∀ u ∈ [a, b, c, d], u < n := fun h1 h2 h3 h4 u hu => by
      simp only [List.mem_cons, List.not_mem_nil, or_false] at hu
      omega
    rw [← hvs] at hv
    rcases List.mem_append.mp hv with hv | hv
    · rcases List.mem_append.mp hv with hv | hv
      · rcases List.mem_append.mp hv with hv | hv
        · rw [← hv1] at hv
          simp only [List.mem_cons, List.not_mem_nil, or_false] at hv
          rcases hv with rfl | rfl | rfl | rfl | rfl | rfl
          · exact fin_told w
          · exact fin_free w
          · exact fin_nums w [c, x, y, z] (four hc hx hy hz) (by simp) (by simp)
          · exact fin_nums w (wd :: late) (fun u hu => (List.mem_cons.mp hu).elim (fun e => by rw [e]; exact hwd) (hllt u)) (by rw [List.length_cons]; omega) (by simp)
          · exact fin_list w htold
          · exact fin_told0 w htold
        · rw [← hv2] at hv
          simp only [List.mem_cons, List.not_mem_nil, or_false] at hv
          rcases hv with rfl | rfl | rfl | rfl | rfl | rfl
          · exact fin_nums w [c, z, y, x] (four hc hz hy hx) (by simp) (by simp)
          · exact fin_thing w (by simp [odd])
          · exact fin_nil w
          · exact fin_thing w ht
          · exact fin_thing w (by simp [odd])
          · exact fin_mix w ht [] [x, y, z] (fun u hu => nomatch hu) (fun u hu => hslt u hu) rfl
      · rw [← hv3] at hv
        simp only [List.mem_cons, List.not_mem_nil, or_false] at hv
        rcases hv with rfl | rfl | rfl
        · exact fin_mix w ht [c, x] [z] (fun u hu => by simp only [List.mem_cons, List.not_mem_nil, or_false] at hu; omega) (fun u hu => by simp only [List.mem_cons, List.not_mem_nil, or_false] at hu; omega) rfl
        · exact fin_head w ht hc
        · exact fin_free0 w
    · rw [List.mem_singleton] at hv
      subst hv
      exact fin_nums w L hLf.1 hLf.2.1 hLf.2.2
  refine wp_bind.mpr (wp_mono (loop_ok w vs hfin kept c3 (some (.s (eL eN [x, y, z]))) (some (.s (eN wd))) (some (.s (eL eN late))) c11 (some (.s (eN c))) (some (.s t)) c17 c18 S7) ?_)
  rintro _ S8 ⟨d10, d11, d17, d18, rfl⟩
  exact wp_of_eq (d := Out.nx (E21 n ties (rowsA n ties) kept (told (claws (rowsA n ties))) c3 (some (.s (eL eN [x, y, z]))) (some (.s (eN wd))) (some (.s (eL eN late))) d10 d11 (some (.s (eN c))) (some (.s t)) d17 d18)) (no_if (bind_of (a := .bl false) (bind_of (a := .str kept) (bind_of (a := [eWeb n ties]) rfl (by rw [hk]; rfl)) (bind_of (a := .str kept) rfl (by rw [neS_same]; rfl))) rfl) rfl) ⟨_, _, _, _, _, _, _, _, _, rfl⟩
end
end
end K20

namespace K20
open PySem PySem.Spec PyProof.Rows L2 L2.EV
noncomputable section
section
variable {n : Nat} {ties : Ties} (w : WebOk n ties)
include w
theorem part_web (c3 c6 c7 c8 c9 c10 c11 c12 c13 c14 c15 c16 c17 c18 : Option Cell) (S : Src) :
    wp (tl_law_6 [none, some (.s .src), some (.s (eL id odd)), c3, some (.s (eN n)), some (.s (eWeb n ties)), c6, c7, c8, c9, c10, c11, c12, c13, c14, c15, c16, c17, c18, none, none]) S fun o _ => ∃ c4 c5 c6 c7 c8 c9 c10 c11 c12 c13 c14 c15 c16 c17 c18, o = .nx [none, some (.s .src), some (.s (eL id odd)), c3, c4, c5, c6, c7, c8, c9, c10, c11, c12, c13, c14, c15, c16, c17, c18, none, none] := by
  have R := rok w
  obtain ⟨kept, hk⟩ := reprX_sh (sh_web w)
  obtain ⟨r1, s1, s2, _, _, hs1, _⟩ := (fin_told w).ex
  generalize htd : told (claws (rowsA n ties)) = td at *
  refine wp_bind.mpr (wp_of_eq (d := Out.nx [none, some (.s .src), some (.s (eL id odd)), c3, some (.s (eN n)), some (.s (eWeb n ties)), c6, c7, c8, c9, c10, c11, some (.s (.str kept)), some (.s (eRows (rowsA n ties))), some (.s td), c15, c16, c17, c18, none, none]) (bind_of (a := [Cell.s (.str kept), .s (eRows (rowsA n ties)), .s td]) (bind_of (a := .str kept) (bind_of (a := [eWeb n ties]) rfl (by rw [hk]; rfl)) (bind_of (a := [Cell.s (eRows (rowsA n ties)), .s td]) (bind_of (a := eRows (rowsA n ties)) (bind_of (a := [eWeb n ties]) rfl (m_near w)) (bind_of (a := [Cell.s td]) (bind_of (a := td) (bind_of (a := [eWeb n ties]) rfl ((m_claw_paper_eq w).trans (by rw [htd]))) rfl) rfl)) rfl)) rfl) ?_)
  refine wp_bind.mpr (wp_of_eq (d := Out.nx (E21 n ties (rowsA n ties) kept td c3 c7 c8 c9 c10 c11 c15 c16 c17 c18)) (bind_of (a := eL e4 (claws (rowsA n ties))) (bind_of (a := [eRows (rowsA n ties)]) rfl (m__law_claws_eq R)) rfl) ?_)
  have et : eIf (bOf (eBin dNeX (eVarI 6) (eLst aNil))) (eBin dAdd (eTup (aCons (eC (.str "claw")) aNil)) (eBin dIx (eVarI 6) (eC (.int 0)))) (eTup (aCons (eC (.str "free")) aNil)) (E21 n ties (rowsA n ties) kept td c3 c7 c8 c9 c10 c11 c15 c16 c17 c18) = pure td := by
    refine bind_of (a := !decide (claws (rowsA n ties) = [])) (bind_of (a := .bl (!decide (claws (rowsA n ties) = []))) (bind_of (a := eL e4 (claws (rowsA n ties))) rfl (bind_of (a := .lst []) rfl (by rw [ne_nil4X]; rfl))) rfl) ?_
    rw [← htd]
    cases hq : claws (rowsA n ties) with
    | nil => rfl
    | cons q qs =>
      refine bind_of (a := .tup [.str "claw"]) rfl (bind_of (a := e4 q) (bind_of (a := eL e4 (q :: qs)) (by show (pure (eL e4 (claws (rowsA n ties))) : M EV.D) = _; rw [hq]) (bind_of (a := eN 0) rfl (by rw [show dIx (eL e4 (q :: qs)) (eN 0) = _ from dIx_L (e := e4) 0 rfl]; rfl))) ?_)
      show M.of (dAdd (.tup [.str "claw"]) (.tup [eN q.1, eN q.2.1, eN q.2.2.1, eN q.2.2.2])) = _
      rw [add_tup (by rw [sizeLine_eq]; simp)]; rfl
  refine wp_bind.mpr (wp_of_eq (d := Out.nx (E21 n ties (rowsA n ties) kept td c3 c7 c8 c9 c10 c11 c15 c16 c17 c18)) (no_if (bind_of (a := .bl false) (bind_of (a := .str s1) (bind_of (a := [td]) rfl (by rw [hs1]; rfl)) (bind_of (a := .str s1) (bind_of (a := [td]) (bind_of et rfl) (by rw [hs1]; rfl)) (by rw [neS_same]; rfl))) rfl) rfl) ?_)
  subst htd
  refine wp_mono (part_values w kept c3 c7 c8 c9 c10 c11 c15 c16 c17 c18 S hk) ?_
  rintro _ S2 ⟨d7, d8, d9, d10, d11, d15, d16, d17, d18, rfl⟩
  exact ⟨_, _, _, _, _, _, _, _, _, _, _, _, _, _, _, rfl⟩
end
def T4 : Ties := [(0, 1), (0, 2), (0, 3)]
theorem w4 : WebOk 4 T4 := ⟨by omega, by omega, by decide, by decide, by decide⟩
theorem told4 : told (claws (rowsA 4 T4)) = .tup [.str "claw", eN 0, eN 1, eN 2, eN 3] := by
  have si : ∀ {xs : Lot}, xs.Pairwise (· < ·) → srt xs = xs := fun {xs} h => lt_ext (srt_lt (h.imp fun h => Nat.ne_of_lt h)) h (mem_srt xs)
  have e0 : rowsA0 (List.replicate 4 []) T4 = [[1, 2, 3], [0], [0], [0]] := by decide
  have e1 : rowsA 4 T4 = [[1, 2, 3], [0], [0], [0]] := by
    unfold rowsA
    rw [e0]
    simp only [List.map_cons, List.map_nil]
    rw [si (xs := [1, 2, 3]) (by decide), si (xs := [0]) (by decide)]
  have e : claws (rowsA 4 T4) = [(0, 1, 2, 3)] := by
    rw [e1]; decide +kernel
  rw [e]; rfl
theorem law_true (S : Src) : ∃ S', fb_law (lawE 21) S = some (.rt (.bl true), S') := by
  suffices H : wp (fb_law (lawE 21)) S fun o _ => o = .rt (.bl true) by
    obtain ⟨o, S', h1, rfl⟩ := H
    exact ⟨S', h1⟩
  refine wp_bind.mpr (wp_of_eq (d := Out.nx [none, some (.s .src), some (.s (eL id odd)), none, none, none, none, none, none, none, none, none, none, none, none, none, none, none, none, none, none]) rfl ?_)
  refine wp_bind.mpr (wp_bind.mpr (wp_of_eq (d := (List.range 6).map eN) (bind_of (a := [eN 6]) rfl (by rw [rng1_N 6 (by omega)]; rfl)) ?_))
  refine wp_for eN (fun i ρ S' => ∃ c3 c4 c5 c6 c7 c8 c9 c10 c11 c12 c13 c14 c15 c16 c17 c18, ρ = [none, some (.s .src), some (.s (eL id odd)), c3, c4, c5, c6, c7, c8, c9, c10, c11, c12, c13, c14, c15, c16, c17, c18, none, none]) ⟨none, none, none, none, none, none, none, none, none, none, none, none, none, none, none, none, rfl⟩ ?_ ?_
  · rintro i x ρ S' hi ⟨c3, c4, c5, c6, c7, c8, c9, c10, c11, c12, c13, c14, c15, c16, c17, c18, rfl⟩
    refine ⟨_, rfl, ?_⟩
    refine wp_bind.mpr (wp_bind.mpr (wp_bind.mpr (wp_of_eq (d := eN 1) rfl (wp_bind.mpr (wp_pick (k := 10) (by omega) (by omega) rfl S' fun r S1 hr => ?_)))))
    refine wp_of_eq (d := eN (1 + r)) (by rw [dAdd_N]; rfl) ?_
    generalize hn : 1 + r = n
    refine wp_of_eq (d := Out.nx [none, some (.s .src), some (.s (eL id odd)), some (.s (eN x)), some (.s (eN n)), c5, c6, c7, c8, c9, c10, c11, c12, c13, c14, c15, c16, c17, c18, none, none]) rfl ?_
    have fin : ∀ {ties : Ties} (S3 : Src), WebOk n ties → wp (tl_law_6 [none, some (.s .src), some (.s (eL id odd)), some (.s (eN x)), some (.s (eN n)), some (.s (eWeb n ties)), c6, c7, c8, c9, c10, c11, c12, c13, c14, c15, c16, c17, c18, none, none]) S3 (forQ (fun ρ S' => ∃ c3 c4 c5 c6 c7 c8 c9 c10 c11 c12 c13 c14 c15 c16 c17 c18, ρ = [none, some (.s .src), some (.s (eL id odd)), c3, c4, c5, c6, c7, c8, c9, c10, c11, c12, c13, c14, c15, c16, c17, c18, none, none]) fun a S' => wp (andThen tl_law_26 a) S' fun o _ => o = .rt (.bl true)) := fun S3 w => by
      refine wp_mono (part_web w (some (.s (eN x))) c6 c7 c8 c9 c10 c11 c12 c13 c14 c15 c16 c17 c18 S3) ?_
      rintro _ S4 ⟨d4, d5, d6, d7, d8, d9, d10, d11, d12, d13, d14, d15, d16, d17, d18, rfl⟩
      exact ⟨_, _, _, _, _, _, _, _, _, _, _, _, _, _, _, _, rfl⟩
    refine wp_bind.mpr (wp_bind.mpr (wp_bind.mpr (wp_bind.mpr (wp_bind.mpr (wp_pick (k := 2) (by omega) (by omega) rfl S1 fun q S2 hq => ?_)))))
    refine wp_bind.mpr (wp_of_eq (d := eN 0) rfl (wp_of_eq (d := D.bl (decide (q = 0))) (by rw [dEqX_of (dEq_good good_N (by omega) q 0)]; rfl) (wp_of_eq (d := decide (q = 0)) rfl ?_)))
    by_cases c : q = 0
    · rw [decide_eq_true c, if_pos rfl]
      refine wp_bind.mpr (wp_of_eq (d := [.src, eN n]) rfl (wp_mono (web_spec n (by omega) (by omega) S2) ?_))
      rintro _ S3 ⟨ties, w, _, rfl⟩
      exact wp_of_eq (d := Out.nx [none, some (.s .src), some (.s (eL id odd)), some (.s (eN x)), some (.s (eN n)), some (.s (eWeb n ties)), c6, c7, c8, c9, c10, c11, c12, c13, c14, c15, c16, c17, c18, none, none]) rfl (fin S3 w)
    · rw [decide_eq_false c, if_neg Bool.false_ne_true]
      refine wp_bind.mpr (wp_of_eq (d := [.src, eN n]) rfl (wp_mono (tree_spec n (by omega) (by omega) S2) ?_))
      rintro _ S3 ⟨ties, w, _, rfl⟩
      exact wp_of_eq (d := Out.nx [none, some (.s .src), some (.s (eL id odd)), some (.s (eN x)), some (.s (eN n)), some (.s (eWeb n ties)), c6, c7, c8, c9, c10, c11, c12, c13, c14, c15, c16, c17, c18, none, none]) rfl (fin S3 w)
  · rintro ρ S' ⟨c3, c4, c5, c6, c7, c8, c9, c10, c11, c12, c13, c14, c15, c16, c17, c18, rfl⟩
    have e : dEqX (.tup [.str "claw", eN 0, eN 1, eN 2, eN 3]) (.tup [.str "claw", eN 0, eN 1, eN 2, eN 3]) = some (.bl true) := by
      have sh : SeqAt.shaped (PyData.tuple [PyData.str "claw", .int 0, .int 1, .int 2, .int 3]) = true := by decide +kernel
      have h : dEqv (.tup [.str "claw", eN 0, eN 1, eN 2, eN 3]) (.tup [.str "claw", eN 0, eN 1, eN 2, eN 3]) = (if SeqAt.shaped (PyData.tuple [PyData.str "claw", .int 0, .int 1, .int 2, .int 3]) && SeqAt.shaped (PyData.tuple [PyData.str "claw", .int 0, .int 1, .int 2, .int 3]) then some (PyData.eqv (PyData.tuple [PyData.str "claw", .int 0, .int 1, .int 2, .int 3]) (PyData.tuple [PyData.str "claw", .int 0, .int 1, .int 2, .int 3])) else none) := rfl
      rw [sh] at h
      unfold dEqX
      rw [dEqvX_of h]; rfl
    refine wp_of_eq (d := Out.rt (.bl true)) (bind_of (a := .bl true) (bind_of (a := .tup [.str "claw", eN 0, eN 1, eN 2, eN 3]) (bind_of (a := [eWeb 4 T4]) rfl ((m_claw_paper_eq w4).trans (by rw [told4]))) (bind_of (a := .tup [.str "claw", eN 0, eN 1, eN 2, eN 3]) rfl (by rw [e]; rfl))) rfl) rfl
end
end K20

namespace K20
open PySem PySem.Spec PyProof.Rows L2 L2.EV
noncomputable section
theorem all_mk {l : PySem.W.OpenLaw} {w : World} {K : PySem.W.Frag} {h : Heap} {mg : Str → Option Value} {fa f1 f2 f3 f4 f5 f6 f7 f8 f9 f10 f11 f12 f13 f14 f15 f16 f17 f18 f19 : Addr} (X : K.In h) (G : h.Ns mainGlobals mg) (hfa : mg "law" = some (.ref fa))
    {od1 od2 od3 od4 od5 od6 od7 od8 od9 od10 od11 od12 od13 od14 od15 od16 od17 od18 od19 an1 an2 an3 an4 an5 an6 an7 an8 an9 an10 an11 an12 an13 an14 an15 an16 an17 an18 an19 : Option Addr} {sl1 sl2 sl3 sl4 sl5 sl6 sl7 sl8 sl9 sl10 sl11 sl12 sl13 sl14 sl15 sl16 sl17 sl18 sl19 : Array (Option Value)} {oc1 oc2 oc3 oc4 oc5 oc6 oc7 oc8 oc9 oc10 oc11 oc12 oc13 oc14 oc15 oc16 oc17 oc18 oc19 kV1 kV2 kV3 kV4 kV5 kV6 kV7 kV8 kV9 kV10 kV11 kV12 kV13 kV14 kV15 kV16 kV17 kV18 kV19 dc1 dc2 dc3 dc4 dc5 dc6 dc7 dc8 dc9 dc10 dc11 dc12 dc13 dc14 dc15 dc16 dc17 dc18 dc19 pm1 pm2 pm3 pm4 pm5 pm6 pm7 pm8 pm9 pm10 pm11 pm12 pm13 pm14 pm15 pm16 pm17 pm18 pm19 cd1 cd2 cd3 cd4 cd5 cd6 cd7 cd8 cd9 cd10 cd11 cd12 cd13 cd14 cd15 cd16 cd17 cd18 cd19 ct1 ct2 ct3 ct4 ct5 ct6 ct7 ct8 ct9 ct10 ct11 ct12 ct13 ct14 ct15 ct16 ct17 ct18 ct19 : Value}
    (a1 : PySem.W.nsIn K mainGlobals "_law_pick" = some (some (.ref f1))) (l1 : K.lookup f1 = some ⟨oc1, od1, .func (PySem.W.fnOf "_law_pick" "_law_pick" (defArgs st__law_pick) (defBody st__law_pick) (defScope st__law_pick) .none kV1 dc1 pm1 an1 cd1 ct1), sl1⟩) (c1 : PySem.W.codeIn K cd1 "_law_pick" = true) (k1 : PySem.W.keepIn K (.ref f1) = true)
    (a2 : PySem.W.nsIn K mainGlobals "_law_any_order" = some (some (.ref f2))) (l2 : K.lookup f2 = some ⟨oc2, od2, .func (PySem.W.fnOf "_law_any_order" "_law_any_order" (defArgs st__law_any_order) (defBody st__law_any_order) (defScope st__law_any_order) .none kV2 dc2 pm2 an2 cd2 ct2), sl2⟩) (c2 : PySem.W.codeIn K cd2 "_law_any_order" = true) (k2 : PySem.W.keepIn K (.ref f2) = true)
    (a3 : PySem.W.nsIn K mainGlobals "_law_claws" = some (some (.ref f3))) (l3 : K.lookup f3 = some ⟨oc3, od3, .func (PySem.W.fnOf "_law_claws" "_law_claws" (defArgs st__law_claws) (defBody st__law_claws) (defScope st__law_claws) .none kV3 dc3 pm3 an3 cd3 ct3), sl3⟩) (c3 : PySem.W.codeIn K cd3 "_law_claws" = true) (k3 : PySem.W.keepIn K (.ref f3) = true)
    (a4 : PySem.W.nsIn K mainGlobals "_law_fault" = some (some (.ref f4))) (l4 : K.lookup f4 = some ⟨oc4, od4, .func (PySem.W.fnOf "_law_fault" "_law_fault" (defArgs st__law_fault) (defBody st__law_fault) (defScope st__law_fault) .none kV4 dc4 pm4 an4 cd4 ct4), sl4⟩) (c4 : PySem.W.codeIn K cd4 "_law_fault" = true) (k4 : PySem.W.keepIn K (.ref f4) = true)
    (a5 : PySem.W.nsIn K mainGlobals "_law_near" = some (some (.ref f5))) (l5 : K.lookup f5 = some ⟨oc5, od5, .func (PySem.W.fnOf "_law_near" "_law_near" (defArgs st__law_near) (defBody st__law_near) (defScope st__law_near) .none kV5 dc5 pm5 an5 cd5 ct5), sl5⟩) (c5 : PySem.W.codeIn K cd5 "_law_near" = true) (k5 : PySem.W.keepIn K (.ref f5) = true)
    (a6 : PySem.W.nsIn K mainGlobals "_law_of" = some (some (.ref f6))) (l6 : K.lookup f6 = some ⟨oc6, od6, .func (PySem.W.fnOf "_law_of" "_law_of" (defArgs st__law_of) (defBody st__law_of) (defScope st__law_of) .none kV6 dc6 pm6 an6 cd6 ct6), sl6⟩) (c6 : PySem.W.codeIn K cd6 "_law_of" = true) (k6 : PySem.W.keepIn K (.ref f6) = true)
    (a7 : PySem.W.nsIn K mainGlobals "_law_open_cells" = some (some (.ref f7))) (l7 : K.lookup f7 = some ⟨oc7, od7, .func (PySem.W.fnOf "_law_open_cells" "_law_open_cells" (defArgs st__law_open_cells) (defBody st__law_open_cells) (defScope st__law_open_cells) .none kV7 dc7 pm7 an7 cd7 ct7), sl7⟩) (c7 : PySem.W.codeIn K cd7 "_law_open_cells" = true) (k7 : PySem.W.keepIn K (.ref f7) = true)
    (a8 : PySem.W.nsIn K mainGlobals "_law_named" = some (some (.ref f8))) (l8 : K.lookup f8 = some ⟨oc8, od8, .func (PySem.W.fnOf "_law_named" "_law_named" (defArgs st__law_named) (defBody st__law_named) (defScope st__law_named) .none kV8 dc8 pm8 an8 cd8 ct8), sl8⟩) (c8 : PySem.W.codeIn K cd8 "_law_named" = true) (k8 : PySem.W.keepIn K (.ref f8) = true)
    (a9 : PySem.W.nsIn K mainGlobals "_law_tree" = some (some (.ref f9))) (l9 : K.lookup f9 = some ⟨oc9, od9, .func (PySem.W.fnOf "_law_tree" "_law_tree" (defArgs st__law_tree) (defBody st__law_tree) (defScope st__law_tree) .none kV9 dc9 pm9 an9 cd9 ct9), sl9⟩) (c9 : PySem.W.codeIn K cd9 "_law_tree" = true) (k9 : PySem.W.keepIn K (.ref f9) = true)
    (a10 : PySem.W.nsIn K mainGlobals "_law_web" = some (some (.ref f10))) (l10 : K.lookup f10 = some ⟨oc10, od10, .func (PySem.W.fnOf "_law_web" "_law_web" (defArgs st__law_web) (defBody st__law_web) (defScope st__law_web) .none kV10 dc10 pm10 an10 cd10 ct10), sl10⟩) (c10 : PySem.W.codeIn K cd10 "_law_web" = true) (k10 : PySem.W.keepIn K (.ref f10) = true)
    (a11 : PySem.W.nsIn K mainGlobals "all_neighbours" = some (some (.ref f11))) (l11 : K.lookup f11 = some ⟨oc11, od11, .func (PySem.W.fnOf "all_neighbours" "all_neighbours" (defArgs st_all_neighbours) (defBody st_all_neighbours) (defScope st_all_neighbours) .none kV11 dc11 pm11 an11 cd11 ct11), sl11⟩) (c11 : PySem.W.codeIn K cd11 "all_neighbours" = true) (k11 : PySem.W.keepIn K (.ref f11) = true)
    (a12 : PySem.W.nsIn K mainGlobals "claws_at" = some (some (.ref f12))) (l12 : K.lookup f12 = some ⟨oc12, od12, .func (PySem.W.fnOf "claws_at" "claws_at" (defArgs st_claws_at) (defBody st_claws_at) (defScope st_claws_at) .none kV12 dc12 pm12 an12 cd12 ct12), sl12⟩) (c12 : PySem.W.codeIn K cd12 "claws_at" = true) (k12 : PySem.W.keepIn K (.ref f12) = true)
    (a13 : PySem.W.nsIn K mainGlobals "first_claw" = some (some (.ref f13))) (l13 : K.lookup f13 = some ⟨oc13, od13, .func (PySem.W.fnOf "first_claw" "first_claw" (defArgs st_first_claw) (defBody st_first_claw) (defScope st_first_claw) .none kV13 dc13 pm13 an13 cd13 ct13), sl13⟩) (c13 : PySem.W.codeIn K cd13 "first_claw" = true) (k13 : PySem.W.keepIn K (.ref f13) = true)
    (a14 : PySem.W.nsIn K mainGlobals "claw_paper" = some (some (.ref f14))) (l14 : K.lookup f14 = some ⟨oc14, od14, .func (PySem.W.fnOf "claw_paper" "claw_paper" (defArgs st_claw_paper) (defBody st_claw_paper) (defScope st_claw_paper) .none kV14 dc14 pm14 an14 cd14 ct14), sl14⟩) (c14 : PySem.W.codeIn K cd14 "claw_paper" = true) (k14 : PySem.W.keepIn K (.ref f14) = true)
    (a15 : PySem.W.nsIn K mainGlobals "is_number" = some (some (.ref f15))) (l15 : K.lookup f15 = some ⟨oc15, od15, .func (PySem.W.fnOf "is_number" "is_number" (defArgs st_is_number) (defBody st_is_number) (defScope st_is_number) .none kV15 dc15 pm15 an15 cd15 ct15), sl15⟩) (c15 : PySem.W.codeIn K cd15 "is_number" = true) (k15 : PySem.W.keepIn K (.ref f15) = true)
    (a16 : PySem.W.nsIn K mainGlobals "are_places_of" = some (some (.ref f16))) (l16 : K.lookup f16 = some ⟨oc16, od16, .func (PySem.W.fnOf "are_places_of" "are_places_of" (defArgs st_are_places_of) (defBody st_are_places_of) (defScope st_are_places_of) .none kV16 dc16 pm16 an16 cd16 ct16), sl16⟩) (c16 : PySem.W.codeIn K cd16 "are_places_of" = true) (k16 : PySem.W.keepIn K (.ref f16) = true)
    (a17 : PySem.W.nsIn K mainGlobals "claw_fault" = some (some (.ref f17))) (l17 : K.lookup f17 = some ⟨oc17, od17, .func (PySem.W.fnOf "claw_fault" "claw_fault" (defArgs st_claw_fault) (defBody st_claw_fault) (defScope st_claw_fault) .none kV17 dc17 pm17 an17 cd17 ct17), sl17⟩) (c17 : PySem.W.codeIn K cd17 "claw_fault" = true) (k17 : PySem.W.keepIn K (.ref f17) = true)
    (a18 : PySem.W.nsIn K mainGlobals "judge_claw" = some (some (.ref f18))) (l18 : K.lookup f18 = some ⟨oc18, od18, .func (PySem.W.fnOf "judge_claw" "judge_claw" (defArgs st_judge_claw) (defBody st_judge_claw) (defScope st_judge_claw) .none kV18 dc18 pm18 an18 cd18 ct18), sl18⟩) (c18 : PySem.W.codeIn K cd18 "judge_claw" = true) (k18 : PySem.W.keepIn K (.ref f18) = true)
    (a19 : PySem.W.nsIn K mainGlobals "law" = some (some (.ref f19))) (l19 : K.lookup f19 = some ⟨oc19, od19, .func (PySem.W.fnOf "law" "law" (defArgs st_law) (defBody st_law) (defScope st_law) .none kV19 dc19 pm19 an19 cd19 ct19), sl19⟩) (c19 : PySem.W.codeIn K cd19 "law" = true) (k19 : PySem.W.keepIn K (.ref f19) = true)
    (z_abs : PySem.W.nsIn K mainGlobals "abs" = some none)
    (z_all : PySem.W.nsIn K mainGlobals "all" = some none)
    (z_bool : PySem.W.nsIn K mainGlobals "bool" = some none)
    (z_dict : PySem.W.nsIn K mainGlobals "dict" = some none)
    (z_enumerate : PySem.W.nsIn K mainGlobals "enumerate" = some none)
    (z_int : PySem.W.nsIn K mainGlobals "int" = some none)
    (z_isinstance : PySem.W.nsIn K mainGlobals "isinstance" = some none)
    (z_len : PySem.W.nsIn K mainGlobals "len" = some none)
    (z_list : PySem.W.nsIn K mainGlobals "list" = some none)
    (z_min : PySem.W.nsIn K mainGlobals "min" = some none)
    (z_range : PySem.W.nsIn K mainGlobals "range" = some none)
    (z_repr : PySem.W.nsIn K mainGlobals "repr" = some none)
    (z_sorted : PySem.W.nsIn K mainGlobals "sorted" = some none)
    (z_str : PySem.W.nsIn K mainGlobals "str" = some none)
    (z_tuple : PySem.W.nsIn K mainGlobals "tuple" = some none)
    : ∃ fd : FuncData, (∀ (s : Shared) (v : Value), BindsTo s fd ⟨[v], []⟩ [("script", v)]) ∧ ∀ base : Heap, K.In base → base.Ns mainGlobals mg → FnG l.prog w K mg base 6 fa fd ["script"] (spLaw K) := by
  have e := hfa.symm.trans (PySem.W.mg_of X G a19)
  cases e
  have F1 := fun_mk (st := st__law_pick) l1 c1 k1
  have b1 := F1.binds (ps := ["source", "most"]) fun _ _ _ _ _ _ us hl => match us, hl with | [_, _], _ => rfl
  have g1 := PySem.W.mg_of X G a1
  have F2 := fun_mk (st := st__law_any_order) l2 c2 k2
  have b2 := F2.binds (ps := ["source", "things"]) fun _ _ _ _ _ _ us hl => match us, hl with | [_, _], _ => rfl
  have g2 := PySem.W.mg_of X G a2
  have F3 := fun_mk (st := st__law_claws) l3 c3 k3
  have b3 := F3.binds (ps := ["near"]) fun _ _ _ _ _ _ us hl => match us, hl with | [_], _ => rfl
  have g3 := PySem.W.mg_of X G a3
  have F4 := fun_mk (st := st__law_fault) l4 c4 k4
  have b4 := F4.binds (ps := ["web", "near", "value"]) fun _ _ _ _ _ _ us hl => match us, hl with | [_, _, _], _ => rfl
  have g4 := PySem.W.mg_of X G a4
  have F5 := fun_mk (st := st__law_near) l5 c5 k5
  have b5 := F5.binds (ps := ["web"]) fun _ _ _ _ _ _ us hl => match us, hl with | [_], _ => rfl
  have g5 := PySem.W.mg_of X G a5
  have F6 := fun_mk (st := st__law_of) l6 c6 k6
  have b6 := F6.binds (ps := ["source", "some"]) fun _ _ _ _ _ _ us hl => match us, hl with | [_, _], _ => rfl
  have g6 := PySem.W.mg_of X G a6
  have F7 := fun_mk (st := st__law_open_cells) l7 c7 k7
  have b7 := F7.binds (ps := ["script"]) fun _ _ _ _ _ _ us hl => match us, hl with | [_], _ => rfl
  have g7 := PySem.W.mg_of X G a7
  have F8 := fun_mk (st := st__law_named) l8 c8 k8
  have b8 := F8.binds (ps := ["source", "n", "ties"]) fun _ _ _ _ _ _ us hl => match us, hl with | [_, _, _], _ => rfl
  have g8 := PySem.W.mg_of X G a8
  have F9 := fun_mk (st := st__law_tree) l9 c9 k9
  have b9 := F9.binds (ps := ["source", "n"]) fun _ _ _ _ _ _ us hl => match us, hl with | [_, _], _ => rfl
  have g9 := PySem.W.mg_of X G a9
  have F10 := fun_mk (st := st__law_web) l10 c10 k10
  have b10 := F10.binds (ps := ["source", "n"]) fun _ _ _ _ _ _ us hl => match us, hl with | [_, _], _ => rfl
  have g10 := PySem.W.mg_of X G a10
  have F11 := fun_mk (st := st_all_neighbours) l11 c11 k11
  have b11 := F11.binds (ps := ["web"]) fun _ _ _ _ _ _ us hl => match us, hl with | [_], _ => rfl
  have g11 := PySem.W.mg_of X G a11
  have F12 := fun_mk (st := st_claws_at) l12 c12 k12
  have b12 := F12.binds (ps := ["near", "c"]) fun _ _ _ _ _ _ us hl => match us, hl with | [_, _], _ => rfl
  have g12 := PySem.W.mg_of X G a12
  have F13 := fun_mk (st := st_first_claw) l13 c13 k13
  have b13 := F13.binds (ps := ["web"]) fun _ _ _ _ _ _ us hl => match us, hl with | [_], _ => rfl
  have g13 := PySem.W.mg_of X G a13
  have F14 := fun_mk (st := st_claw_paper) l14 c14 k14
  have b14 := F14.binds (ps := ["web"]) fun _ _ _ _ _ _ us hl => match us, hl with | [_], _ => rfl
  have g14 := PySem.W.mg_of X G a14
  have F15 := fun_mk (st := st_is_number) l15 c15 k15
  have b15 := F15.binds (ps := ["value"]) fun _ _ _ _ _ _ us hl => match us, hl with | [_], _ => rfl
  have g15 := PySem.W.mg_of X G a15
  have F16 := fun_mk (st := st_are_places_of) l16 c16 k16
  have b16 := F16.binds (ps := ["web", "value"]) fun _ _ _ _ _ _ us hl => match us, hl with | [_, _], _ => rfl
  have g16 := PySem.W.mg_of X G a16
  have F17 := fun_mk (st := st_claw_fault) l17 c17 k17
  have b17 := F17.binds (ps := ["web", "c", "some"]) fun _ _ _ _ _ _ us hl => match us, hl with | [_, _, _], _ => rfl
  have g17 := PySem.W.mg_of X G a17
  have F18 := fun_mk (st := st_judge_claw) l18 c18 k18
  have b18 := F18.binds (ps := ["web", "value"]) fun _ _ _ _ _ _ us hl => match us, hl with | [_, _], _ => rfl
  have g18 := PySem.W.mg_of X G a18
  have F19 := fun_mk (st := st_law) l19 c19 k19
  have m_abs := PySem.W.mg_none_of X G z_abs
  have m_all := PySem.W.mg_none_of X G z_all
  have m_bool := PySem.W.mg_none_of X G z_bool
  have m_dict := PySem.W.mg_none_of X G z_dict
  have m_enumerate := PySem.W.mg_none_of X G z_enumerate
  have m_int := PySem.W.mg_none_of X G z_int
  have m_isinstance := PySem.W.mg_none_of X G z_isinstance
  have m_len := PySem.W.mg_none_of X G z_len
  have m_list := PySem.W.mg_none_of X G z_list
  have m_min := PySem.W.mg_none_of X G z_min
  have m_range := PySem.W.mg_none_of X G z_range
  have m_repr := PySem.W.mg_none_of X G z_repr
  have m_sorted := PySem.W.mg_none_of X G z_sorted
  have m_str := PySem.W.mg_none_of X G z_str
  have m_tuple := PySem.W.mg_none_of X G z_tuple
  refine ⟨PySem.W.fnOf "law" "law" (defArgs st_law) (defBody st_law) (defScope st_law) .none kV19 dc19 pm19 an19 cd19 ct19, fun s v => .of_eq rfl, fun base _ _ => ?_⟩
  have h__law_pick : FnV l.prog w K mg base 1 "_law_pick" [false, false] m__law_pick := fn_v F1 g1 b1 (ok__law_pick F1 m_int m_len)
  have h__law_any_order : FnV l.prog w K mg base 2 "_law_any_order" [false, false] m__law_any_order := fn_v F2 g2 b2 (ok__law_any_order F2 m_len m_list m_range h__law_pick)
  have h__law_claws : FnV l.prog w K mg base 1 "_law_claws" [false] m__law_claws := fn_v F3 g3 b3 (ok__law_claws F3 m_len m_range)
  have h__law_fault : FnVG l.prog w K mg base 2 "_law_fault" [false, false, false] m__law_fault := fn_vG F4 g4 b4 (ok__law_fault F4 m_bool m_int m_isinstance m_len m_repr m_tuple h__law_claws)
  have h__law_near : FnV l.prog w K mg base 1 "_law_near" [false] m__law_near := fn_v F5 g5 b5 (ok__law_near F5 m_range m_sorted)
  have h__law_of : FnV l.prog w K mg base 2 "_law_of" [false, false] m__law_of := fn_v F6 g6 b6 (ok__law_of F6 m_len h__law_pick)
  have h__law_named : FnV l.prog w K mg base 3 "_law_named" [false, false, false] m__law_named := fn_v F8 g8 b8 (ok__law_named F8 m_dict m_list m_range m_sorted m_tuple h__law_any_order)
  have h__law_tree : FnV l.prog w K mg base 4 "_law_tree" [false, false] m__law_tree := fn_v F9 g9 b9 (ok__law_tree F9 m_min m_range h__law_named h__law_pick)
  have h__law_web : FnV l.prog w K mg base 5 "_law_web" [false, false] m__law_web := fn_v F10 g10 b10 (ok__law_web F10 m_list m_range h__law_named h__law_pick h__law_tree)
  have h_all_neighbours : FnV l.prog w K mg base 1 "all_neighbours" [false] m_all_neighbours := fn_v F11 g11 b11 (ok_all_neighbours F11 m_range m_sorted)
  have h_claws_at : FnV l.prog w K mg base 1 "claws_at" [false, false] m_claws_at := fn_v F12 g12 b12 (ok_claws_at F12 m_enumerate m_len m_range)
  have h_first_claw : FnV l.prog w K mg base 2 "first_claw" [false] m_first_claw := fn_v F13 g13 b13 (ok_first_claw F13 m_range h_all_neighbours h_claws_at)
  have h_claw_paper : FnV l.prog w K mg base 3 "claw_paper" [false] m_claw_paper := fn_v F14 g14 b14 (ok_claw_paper F14 h_first_claw)
  have h_is_number : FnV l.prog w K mg base 1 "is_number" [false] m_is_number := fn_v F15 g15 b15 (ok_is_number F15 m_bool m_int m_isinstance)
  have h_are_places_of : FnV l.prog w K mg base 2 "are_places_of" [false, false] m_are_places_of := fn_v F16 g16 b16 (ok_are_places_of F16 m_all h_is_number)
  have h_claw_fault : FnV l.prog w K mg base 2 "claw_fault" [false, false, false] m_claw_fault := fn_v F17 g17 b17 (ok_claw_fault F17 h_all_neighbours)
  have h_judge_claw : FnV l.prog w K mg base 4 "judge_claw" [false, false] m_judge_claw := fn_v F18 g18 b18 (ok_judge_claw F18 m_isinstance m_len m_str m_tuple h_are_places_of h_claw_fault h_claw_paper)
  exact ok_law F19 (ok__law_open_cells F7 m_int m_abs) F7.kp b7 g7 m_len m_list m_range m_repr m_sorted m_tuple h__law_any_order h__law_claws h__law_fault h__law_near h__law_of h__law_pick h__law_tree h__law_web h_claw_paper h_judge_claw law_true
end
end K20
open PySem PySem.W PyProof.Rows
set_option maxHeartbeats 0 in
theorem PySem.Challenge.cw_placesdefended_k20_claw_papers_judged_holds : PySem.Challenge.rw_placesdefended_k20_claw_papers_judged.Holds := by
  w_on; o_law; k_head; (case hw => w_witness2)
  k_fill
  refine L2.EV.walkG (l := PySem.Challenge.rw_placesdefended_k20_claw_papers_judged) (n := 63) (k := 6) (x := "script") (sp := fun w => L2.EV.spLaw _) rfl (by decide) rfl ⟨rfl, by decide, by decide⟩ (fun w h Y => PySem.W.kIn_of Y) ?F (fun _ _ a ns hl _ hS => ⟨a, ns, rfl, hS, hl, fun _ => rfl⟩)
  case F =>
    intro w mg fa h KX G hmg
    refine' K20.all_mk KX G hmg ?a1 ?l1 ?c1 ?k1 ?a2 ?l2 ?c2 ?k2 ?a3 ?l3 ?c3 ?k3 ?a4 ?l4 ?c4 ?k4 ?a5 ?l5 ?c5 ?k5 ?a6 ?l6 ?c6 ?k6 ?a7 ?l7 ?c7 ?k7 ?a8 ?l8 ?c8 ?k8 ?a9 ?l9 ?c9 ?k9 ?a10 ?l10 ?c10 ?k10 ?a11 ?l11 ?c11 ?k11 ?a12 ?l12 ?c12 ?k12 ?a13 ?l13 ?c13 ?k13 ?a14 ?l14 ?c14 ?k14 ?a15 ?l15 ?c15 ?k15 ?a16 ?l16 ?c16 ?k16 ?a17 ?l17 ?c17 ?k17 ?a18 ?l18 ?c18 ?k18 ?a19 ?l19 ?c19 ?k19 ?z_abs ?z_all ?z_bool ?z_dict ?z_enumerate ?z_int ?z_isinstance ?z_len ?z_list ?z_min ?z_range ?z_repr ?z_sorted ?z_str ?z_tuple
    (case a1 => k_is); (case l1 => k_is); (case c1 => k_is); (case k1 => k_is); (case a2 => k_is); (case l2 => k_is); (case c2 => k_is); (case k2 => k_is); (case a3 => k_is); (case l3 => k_is); (case c3 => k_is); (case k3 => k_is); (case a4 => k_is); (case l4 => k_is); (case c4 => k_is); (case k4 => k_is); (case a5 => k_is); (case l5 => k_is); (case c5 => k_is); (case k5 => k_is); (case a6 => k_is); (case l6 => k_is); (case c6 => k_is); (case k6 => k_is); (case a7 => k_is); (case l7 => k_is); (case c7 => k_is); (case k7 => k_is); (case a8 => k_is); (case l8 => k_is); (case c8 => k_is); (case k8 => k_is); (case a9 => k_is); (case l9 => k_is); (case c9 => k_is); (case k9 => k_is); (case a10 => k_is); (case l10 => k_is); (case c10 => k_is); (case k10 => k_is); (case a11 => k_is); (case l11 => k_is); (case c11 => k_is); (case k11 => k_is); (case a12 => k_is); (case l12 => k_is); (case c12 => k_is); (case k12 => k_is); (case a13 => k_is); (case l13 => k_is); (case c13 => k_is); (case k13 => k_is); (case a14 => k_is); (case l14 => k_is); (case c14 => k_is); (case k14 => k_is); (case a15 => k_is); (case l15 => k_is); (case c15 => k_is); (case k15 => k_is); (case a16 => k_is); (case l16 => k_is); (case c16 => k_is); (case k16 => k_is); (case a17 => k_is); (case l17 => k_is); (case c17 => k_is); (case k17 => k_is); (case a18 => k_is); (case l18 => k_is); (case c18 => k_is); (case k18 => k_is); (case a19 => k_is); (case l19 => k_is); (case c19 => k_is); (case k19 => k_is); (case z_abs => k_is); (case z_all => k_is); (case z_bool => k_is); (case z_dict => k_is); (case z_enumerate => k_is); (case z_int => k_is); (case z_isinstance => k_is); (case z_len => k_is); (case z_list => k_is); (case z_min => k_is); (case z_range => k_is); (case z_repr => k_is); (case z_sorted => k_is); (case z_str => k_is); (case z_tuple => k_is)
