import PyProof.Rows.All
import HandS.Head0
import HandS.Head1
import HandS.Head2
import HandS.HeadEnd
import HandS.HeadHook1
import HandS.HeadHook2
import HandS.Ends
import KE.KStateDown
import HandS.ForMost
import HandS.Exc
import HandS.ExcOwn
import HandS.IsInst
import HandS.StrMore
import HandS.Zip
import HandS.Deep
import HandS.TupAny
import HandS.TupMul
import HandS.DeepEq
import HandS.WideBits
import HandS.Flow
import HandS.WordsExc
import KE.GoesEnum
import HandS.CallSlots
import HandS.Defaults
import HandS.Style
import HandS.Codes
import HandS.Words
import HandS.SortKw
import HandS.Conv
import KE.IntTextLaws
import PyProof.StrLaws
import PySem.Challenge.RW_tallstrips_k45_opening_cut_anywhere
set_option Elab.async false
set_option linter.all false
set_option maxRecDepth 100000
set_option maxHeartbeats 4000000
/-! # The D layer: values without a heap. A def's body as a function over slots that hold such values. -/
namespace DL
open PySem PySem.Spec PyProof.Rows L2

/-- a value without a heap: texts by their code points, tuples and lists by their items -/
inductive D where
  | non | bl (b : Bool) | int (i : Int) | str (x : List Nat) | tup (l : List D) | lst (l : List D) | scr (ns : List Int)

/-- a slot: nothing told; a value that is never written; a list of this def's own; a list that the caller lends -/
inductive Sl where
  | no | fz (d : D) | ow (ds : List D) | pw (ds : List D)
@[simp] def Sl.own : Sl → Option (List D)
  | .ow ds => some ds
  | .pw ds => some ds
  | _ => none
abbrev En := List Sl

inductive Res (α : Type) where
  | ok (a : α) (ρ : En) | ex (c : Str) (d : D) (ρ : En) | no
@[simp] def Res.bind {α β : Type} (m : Res α) (f : α → En → Res β) : Res β := match m with
  | .ok a ρ => f a ρ
  | .ex c d ρ => .ex c d ρ
  | .no => .no
def wpR {α : Type} (m : Res α) (Q : α → En → Prop) (E : Str → D → En → Prop) : Prop := match m with
  | .ok a ρ => Q a ρ
  | .ex c d ρ => E c d ρ
  | .no => False
theorem wpR_mono {α : Type} {m : Res α} {Q Q' : α → En → Prop} {E E' : Str → D → En → Prop} (h : wpR m Q E) (hQ : ∀ a ρ, Q a ρ → Q' a ρ) (hE : ∀ c d ρ, E c d ρ → E' c d ρ) : wpR m Q' E' := by
  cases m with
  | ok a ρ => exact hQ _ _ h
  | ex c d ρ => exact hE _ _ _ h
  | no => exact h
theorem wpR_bind {α β : Type} {m : Res α} {f : α → En → Res β} {Q : β → En → Prop} {E : Str → D → En → Prop} : wpR (m.bind f) Q E ↔ wpR m (fun a ρ => wpR (f a ρ) Q E) E := by
  cases m <;> exact Iff.rfl

def toS (x : List Nat) : Str := ⟨x.toArray⟩
/-- a text that the model bears: not too long, code points -/
def okS (x : List Nat) : Bool := decide (x.length ≤ 16777216) && x.all fun c => decide (c < 1114112)
theorem toS_len (x : List Nat) : (toS x).length = x.length := by simp [toS, Str.length]
theorem toS_list (x : List Nat) : (toS x).cps.toList = x := by simp [toS]
theorem toS_of (z : Str) : toS z.cps.toList = z := by simp [toS]
theorem toS_inj {x y : List Nat} (h : toS x = toS y) : x = y := by
  have := congrArg (fun z => z.cps.toList) h
  simpa [toS] using this
theorem okS_len {x : List Nat} (h : okS x = true) : x.length ≤ sizeLine := by
  unfold okS at h
  rw [Bool.and_eq_true_iff] at h
  rw [sizeLine_eq]; exact of_decide_eq_true h.1
theorem okS_all {x : List Nat} (h : okS x = true) : ∀ c ∈ x, c < 1114112 := by
  unfold okS at h
  rw [Bool.and_eq_true_iff, List.all_eq_true] at h
  exact fun c hc => of_decide_eq_true (h.2 c hc)
theorem okS_of {x : List Nat} (h : x.length ≤ sizeLine) (h2 : ∀ c ∈ x, c < 1114112) : okS x = true := by
  unfold okS
  rw [Bool.and_eq_true_iff, List.all_eq_true]
  rw [sizeLine_eq] at h
  exact ⟨decide_eq_true h, fun c hc => decide_eq_true (h2 c hc)⟩

/-! ### how a value stands in the heap -/
section
variable (K : PySem.W.Frag) (O : Addr → Prop) (H : Hp)
def TupAt (a : Addr) (xs : List V) : Prop := (¬ O a ∧ Rd H a (.tup xs)) ∨
    ∃ (o : Obj) (its : Array Value) (n : Nat), K.lookup a = some o ∧ o.cls = .type "tuple" ∧ o.data = .seq its n ∧ its.size ≤ sizeLine ∧ Vals xs its.toList
def LstAt (a : Addr) (xs : List V) : Prop := ¬ O a ∧ H a = some (.lst xs)
/-- the law's own list of ints: read alone -/
def ScrAt (a : Addr) (xs : List V) : Prop := (¬ O a ∧ ∃ o, H a = some (.frz o (.lst xs))) ∨
    ∃ (o : Obj) (its : Array Value) (n : Nat), K.lookup a = some o ∧ o.cls = .type "list" ∧ o.dict = none ∧ o.data = .seq its n ∧ its.size ≤ sizeLine ∧ Vals xs its.toList
mutual
inductive Rep : V → D → Prop
  | non : Rep .non .non
  | bl (b : Bool) : Rep (.bl b) (.bl b)
  | int (i : Int) : Rep (.int i) (.int i)
  | str (x : List Nat) (h : okS x = true) : Rep (.str (toS x)) (.str x)
  | tup {a : Addr} {xs : List V} {ds : List D} : TupAt K O H a xs → Reps xs ds → Rep (.ref a) (.tup ds)
  | lst {a : Addr} {xs : List V} {ds : List D} : LstAt O H a xs → Reps xs ds → Rep (.ref a) (.lst ds)
  | scr {a : Addr} {ns : List Int} : ScrAt K O H a (ns.map V.int) → Rep (.ref a) (.scr ns)
inductive Reps : List V → List D → Prop
  | nil : Reps [] []
  | cons {v : V} {vs : List V} {d : D} {ds : List D} : Rep v d → Reps vs ds → Reps (v :: vs) (d :: ds)
end
end
section
variable {K : PySem.W.Frag} {O O' : Addr → Prop} {H H' : Hp}
theorem TupAt.sq {a : Addr} {xs : List V} (h : TupAt K O H a xs) : SqT K H a xs := h.imp (·.2) id
theorem LstAt.sq {K : PySem.W.Frag} {a : Addr} {xs : List V} (h : LstAt O H a xs) : SqL K H a xs := .inl (.inl h.2)
theorem ScrAt.sq {a : Addr} {xs : List V} (h : ScrAt K O H a xs) : SqL K H a xs := h.imp (fun z => .inr z.2) id

/-- what stood stands, but at O; nothing is forgotten -/
structure Good (O : Addr → Prop) (H H' : Hp) : Prop where
  keep : ∀ b o, H b = some o → ¬ O b → H' b = some o
  there : ∀ b, H b ≠ none → H' b ≠ none
theorem Good.refl : Good O H H := ⟨fun _ _ h _ => h, fun _ h => h⟩
theorem Good.trans {H1 : Hp} (a : Good O H H1) (b : Good O' H1 H') (h : ∀ x, O' x → O x ∨ H x = none) : Good O H H' :=
  ⟨fun c o e n => b.keep c o (a.keep c o e n) fun z => (h c z).elim n fun q => (by rw [q] at e; cases e), fun c e => b.there c (a.there c e)⟩
theorem Good.mono (a : Good O H H') (h : ∀ x, O x → O' x) : Good O' H H' := ⟨fun c o e n => a.keep c o e fun z => n (h c z), a.there⟩
theorem Good.free (a : Good O H H') {p : Addr} (h : H' p = none) : H p = none := by
  cases e : H p with
  | none => rfl
  | some o => exact absurd h (a.there p (by rw [e]; exact fun z => by cases z))
theorem Good.upd {p : Addr} {o : HO} (h : H p = none) : Good O H (upd H p o) :=
  ⟨fun b u e _ => (by rw [upd_ne (ne_of_none e h)]; exact e), fun b e => by
    by_cases hb : b = p
    · rw [hb]; unfold L2.upd; rw [if_pos rfl]; exact fun z => by cases z
    · rw [upd_ne hb]; exact e⟩
theorem Good.write {p : Addr} {o : HO} (h : O p) : Good O H (L2.upd H p o) :=
  ⟨fun b u e n => (by rw [upd_ne (fun z => n (by rw [z]; exact h))]; exact e), fun b e => by
    by_cases hb : b = p
    · rw [hb]; unfold L2.upd; rw [if_pos rfl]; exact fun z => by cases z
    · rw [upd_ne hb]; exact e⟩
theorem Rd.good {a : Addr} {u : HO} (g : Good O H H') (n : ¬ O a) (h : Rd H a u) : Rd H' a u := h.imp (fun e => g.keep _ _ e n) fun ⟨o, e⟩ => ⟨o, g.keep _ _ e n⟩
theorem TupAt.good {a : Addr} {xs : List V} (g : Good O H H') (h : TupAt K O H a xs) : TupAt K O H' a xs := h.imp (fun ⟨n, r⟩ => ⟨n, Rd.good g n r⟩) id
theorem LstAt.good {a : Addr} {xs : List V} (g : Good O H H') (h : LstAt O H a xs) : LstAt O H' a xs := ⟨h.1, g.keep _ _ h.2 h.1⟩
theorem ScrAt.good {a : Addr} {xs : List V} (g : Good O H H') (h : ScrAt K O H a xs) : ScrAt K O H' a xs := h.imp (fun ⟨n, o, e⟩ => ⟨n, o, g.keep _ _ e n⟩) id
theorem Rd.some_of {a : Addr} {u : HO} (h : Rd H a u) : H a ≠ none := by
  rcases h with e | ⟨o, e⟩ <;> rw [e] <;> exact fun z => by cases z
/-- other marks, by what they are on tracked addresses -/
theorem TupAt.mono {a : Addr} {xs : List V} (m : ∀ b, O' b → H b ≠ none → O b) (h : TupAt K O H a xs) : TupAt K O' H a xs := h.imp (fun ⟨n, r⟩ => ⟨fun z => n (m a z (Rd.some_of r)), r⟩) id
theorem LstAt.mono {a : Addr} {xs : List V} (m : ∀ b, O' b → H b ≠ none → O b) (h : LstAt O H a xs) : LstAt O' H a xs := ⟨fun z => h.1 (m a z (by rw [h.2]; exact fun y => by cases y)), h.2⟩
theorem ScrAt.mono {a : Addr} {xs : List V} (m : ∀ b, O' b → H b ≠ none → O b) (h : ScrAt K O H a xs) : ScrAt K O' H a xs := h.imp (fun ⟨n, o, e⟩ => ⟨fun z => n (m a z (by rw [e]; exact fun y => by cases y)), o, e⟩) id
mutual
theorem Rep.good (g : Good O H H') : ∀ (d : D) (v : V), Rep K O H v d → Rep K O H' v d
  | .non, _, h => by cases h; exact .non
  | .bl b, _, h => by cases h; exact .bl b
  | .int i, _, h => by cases h; exact .int i
  | .str x, _, h => by cases h with | str _ o => exact .str x o
  | .tup ds, _, h => by cases h with | tup a r => exact .tup (a.good g) (Reps.good g ds _ r)
  | .lst ds, _, h => by cases h with | lst a r => exact .lst (a.good g) (Reps.good g ds _ r)
  | .scr ns, _, h => by cases h with | scr a => exact .scr (a.good g)
theorem Reps.good (g : Good O H H') : ∀ (ds : List D) (vs : List V), Reps K O H vs ds → Reps K O H' vs ds
  | [], _, h => by cases h; exact .nil
  | d :: ds, _, h => by cases h with | cons a r => exact .cons (Rep.good g d _ a) (Reps.good g ds _ r)
end
mutual
theorem Rep.mono (m : ∀ b, O' b → H b ≠ none → O b) : ∀ (d : D) (v : V), Rep K O H v d → Rep K O' H v d
  | .non, _, h => by cases h; exact .non
  | .bl b, _, h => by cases h; exact .bl b
  | .int i, _, h => by cases h; exact .int i
  | .str x, _, h => by cases h with | str _ o => exact .str x o
  | .tup ds, _, h => by cases h with | tup a r => exact .tup (a.mono m) (Reps.mono m ds _ r)
  | .lst ds, _, h => by cases h with | lst a r => exact .lst (a.mono m) (Reps.mono m ds _ r)
  | .scr ns, _, h => by cases h with | scr a => exact .scr (a.mono m)
theorem Reps.mono (m : ∀ b, O' b → H b ≠ none → O b) : ∀ (ds : List D) (vs : List V), Reps K O H vs ds → Reps K O' H vs ds
  | [], _, h => by cases h; exact .nil
  | d :: ds, _, h => by cases h with | cons a r => exact .cons (Rep.mono m d _ a) (Reps.mono m ds _ r)
end
theorem Rep.g {v : V} {d : D} (h : Rep K O H v d) (g : Good O H H') : Rep K O H' v d := Rep.good g d v h
theorem Reps.g {v : List V} {d : List D} (h : Reps K O H v d) (g : Good O H H') : Reps K O H' v d := Reps.good g d v h
theorem Rep.m {v : V} {d : D} (h : Rep K O H v d) (m : ∀ b, O' b → H b ≠ none → O b) : Rep K O' H v d := Rep.mono m d v h
theorem Reps.m {v : List V} {d : List D} (h : Reps K O H v d) (m : ∀ b, O' b → H b ≠ none → O b) : Reps K O' H v d := Reps.mono m d v h
theorem Reps.length : ∀ {ds : List D} {vs : List V}, Reps K O H vs ds → vs.length = ds.length
  | [], _, h => by cases h; rfl
  | d :: ds, _, h => by cases h with | cons a r => simp [Reps.length r]
theorem Reps.get : ∀ {ds : List D} {vs : List V} {i : Nat} {d : D}, Reps K O H vs ds → ds[i]? = some d → ∃ v, vs[i]? = some v ∧ Rep K O H v d
  | [], _, _, _, h, e => by simp at e
  | d :: ds, _, 0, _, h, e => by
    cases h with | cons a r =>
    simp at e; subst e; exact ⟨_, rfl, a⟩
  | d :: ds, _, i + 1, _, h, e => by
    cases h with | cons a r =>
    obtain ⟨v, e1, e2⟩ := Reps.get (i := i) r (by simpa using e)
    exact ⟨v, by simpa using e1, e2⟩
theorem Reps.getV {ds : List D} {vs : List V} {i : Nat} {v : V} (h : Reps K O H vs ds) (e : vs[i]? = some v) : ∃ d, ds[i]? = some d ∧ Rep K O H v d := by
  have hl := h.length
  have hi : i < vs.length := (List.getElem?_eq_some_iff.mp e).1
  obtain ⟨v', e', r⟩ := h.get (i := i) (d := ds[i]'(by omega)) (by simp)
  rw [e] at e'; cases e'
  exact ⟨_, List.getElem?_eq_getElem _, r⟩
theorem Reps.append : ∀ {ds es : List D} {vs ws : List V}, Reps K O H vs ds → Reps K O H ws es → Reps K O H (vs ++ ws) (ds ++ es)
  | [], _, _, _, h, h2 => by cases h; exact h2
  | d :: ds, _, _, _, h, h2 => by cases h with | cons a r => exact .cons a (Reps.append r h2)
theorem Reps.take : ∀ (n : Nat) {ds : List D} {vs : List V}, Reps K O H vs ds → Reps K O H (vs.take n) (ds.take n)
  | 0, _, _, _ => by simp; exact .nil
  | n + 1, [], _, h => by cases h; simp; exact .nil
  | n + 1, d :: ds, _, h => by cases h with | cons a r => exact .cons a (Reps.take n r)
theorem Reps.drop : ∀ (n : Nat) {ds : List D} {vs : List V}, Reps K O H vs ds → Reps K O H (vs.drop n) (ds.drop n)
  | 0, _, _, h => by simpa using h
  | n + 1, [], _, h => by cases h; simp; exact .nil
  | n + 1, d :: ds, _, h => by cases h with | cons a r => simpa using Reps.drop n r
theorem Reps.set : ∀ (n : Nat) {ds : List D} {vs : List V} {v : V} {d : D}, Reps K O H vs ds → Rep K O H v d → Reps K O H (vs.set n v) (ds.set n d)
  | _, [], _, _, _, h, _ => by cases h; exact .nil
  | 0, d :: ds, _, _, _, h, q => by cases h with | cons a r => exact .cons q r
  | n + 1, d :: ds, _, _, _, h, q => by cases h with | cons a r => exact .cons a (Reps.set n r q)
theorem Reps.reverse {ds : List D} {vs : List V} (h : Reps K O H vs ds) : Reps K O H vs.reverse ds.reverse := by
  induction ds generalizing vs with
  | nil => cases h; exact .nil
  | cons d ds ih =>
    cases h with | cons a r =>
    simp only [List.reverse_cons]
    exact (ih r).append (.cons a .nil)
theorem Reps.rep {ds : List D} {vs : List V} (h : Reps K O H vs ds) : ∀ n : Nat, Reps K O H (List.replicate n vs).flatten (List.replicate n ds).flatten
  | 0 => .nil
  | n + 1 => by simp only [List.replicate_succ, List.flatten_cons]; exact h.append (Reps.rep h n)
theorem Rep.strV {v : V} {x : List Nat} (h : Rep K O H v (.str x)) : v = .str (toS x) := by cases h; rfl
theorem Rep.strOk {v : V} {x : List Nat} (h : Rep K O H v (.str x)) : okS x = true := by cases h; assumption
theorem Rep.intV {v : V} {i : Int} (h : Rep K O H v (.int i)) : v = .int i := by cases h; rfl
theorem Rep.blV {v : V} {i : Bool} (h : Rep K O H v (.bl i)) : v = .bl i := by cases h; rfl
theorem Rep.nonV {v : V} (h : Rep K O H v .non) : v = .non := by cases h; rfl
theorem Rep.tupV {v : V} {ds : List D} (h : Rep K O H v (.tup ds)) : ∃ a xs, v = .ref a ∧ TupAt K O H a xs ∧ Reps K O H xs ds := by cases h with | tup a r => exact ⟨_, _, rfl, a, r⟩
theorem Rep.lstV {v : V} {ds : List D} (h : Rep K O H v (.lst ds)) : ∃ a xs, v = .ref a ∧ LstAt O H a xs ∧ Reps K O H xs ds := by cases h with | lst a r => exact ⟨_, _, rfl, a, r⟩
theorem Rep.strOf (z : Str) (h : okS z.cps.toList = true) : Rep K O H (.str z) (.str z.cps.toList) := by
  have h := Rep.str (K := K) (O := O) (H := H) z.cps.toList h
  rw [toS_of] at h
  exact h
theorem Rep.scrV {v : V} {ns : List Int} (h : Rep K O H v (.scr ns)) : ∃ a, v = .ref a ∧ ScrAt K O H a (ns.map V.int) := by cases h with | scr a => exact ⟨_, rfl, a⟩
theorem Reps.ints : ∀ (ns : List Int), Reps K O H (ns.map V.int) (ns.map D.int)
  | [] => .nil
  | n :: r => .cons (.int n) (Reps.ints r)
theorem Reps.intsV : ∀ {ns : List Int} {vs : List V}, Reps K O H vs (ns.map D.int) → vs = ns.map V.int
  | [], _, h => by cases h; rfl
  | n :: r, _, h => by cases h with | cons a q => rw [a.intV, Reps.intsV q]; rfl
theorem Reps.bls : ∀ (ns : List Bool), Reps K O H (ns.map V.bl) (ns.map D.bl)
  | [] => .nil
  | n :: r => .cons (.bl n) (Reps.bls r)
theorem Reps.blsV : ∀ {ns : List Bool} {vs : List V}, Reps K O H vs (ns.map D.bl) → vs = ns.map V.bl
  | [], _, h => by cases h; rfl
  | n :: r, _, h => by cases h with | cons a q => rw [a.blV, Reps.blsV q]; rfl
theorem Reps.strsV : ∀ {ns : List (List Nat)} {vs : List V}, Reps K O H vs (ns.map D.str) → vs = (ns.map toS).map V.str
  | [], _, h => by cases h; rfl
  | n :: r, _, h => by cases h with | cons a q => rw [a.strV, Reps.strsV q]; rfl
theorem Reps.strsOk : ∀ {ns : List (List Nat)} {vs : List V}, Reps K O H vs (ns.map D.str) → ∀ x ∈ ns, okS x = true
  | [], _, h, x, hx => by cases hx
  | n :: r, _, h, x, hx => by
    cases h with | cons a q =>
    rcases List.mem_cons.mp hx with e | e
    · rw [e]; exact a.strOk
    · exact Reps.strsOk q x e
theorem Reps.strs : ∀ (ns : List (List Nat)), (∀ x ∈ ns, okS x = true) → Reps K O H ((ns.map toS).map V.str) (ns.map D.str)
  | [], _ => .nil
  | n :: r, h => .cons (.str n (h n List.mem_cons_self)) (Reps.strs r fun x hx => h x (List.mem_cons_of_mem _ hx))
end
end DL

namespace DL
open PySem PySem.Spec PyProof.Rows L2

abbrev Sg := L2.St
/-! ### the slots and the heap -/
/-- what is fixed through a stretch of code: B the marked addresses of those around, P those of them that may be written here, H0 the heap at its start -/
structure Bx where
  B : Addr → Prop
  P : Addr → Prop
  H0 : Hp
  /-- the lists that comprehensions around are making -/
  Z : Addr → Prop := fun _ => False
def ownAt (σ : Sg) (ρ : En) (i : Nat) (a : Addr) : Prop := (∃ (s : Sl) (ds : List D), ρ[i]? = some s ∧ s.own = some ds) ∧ σ[i]? = some (some (.ref a))
def own (σ : Sg) (ρ : En) (a : Addr) : Prop := ∃ i, ownAt σ ρ i a
def OO (c : Bx) (σ : Sg) (ρ : En) (a : Addr) : Prop := c.B a ∨ c.Z a ∨ own σ ρ a
structure ER (K : PySem.W.Frag) (c : Bx) (σ : Sg) (H : Hp) (ρ : En) : Prop where
  len : σ.length = ρ.length
  fz : ∀ (i : Nat) (d : D), ρ[i]? = some (.fz d) → ∃ v, σ[i]? = some (some v) ∧ Rep K (OO c σ ρ) H v d
  ow : ∀ (i : Nat) (s : Sl) (ds : List D), ρ[i]? = some s → s.own = some ds → ∃ a vs, σ[i]? = some (some (.ref a)) ∧ H a = some (.lst vs) ∧ Reps K (OO c σ ρ) H vs ds
  one : ∀ i j a, ownAt σ ρ i a → ownAt σ ρ j a → i = j
  mine : ∀ (i : Nat) (a : Addr) (ds : List D), ρ[i]? = some (.ow ds) → σ[i]? = some (some (.ref a)) → c.H0 a = none
  lent : ∀ (i : Nat) (a : Addr) (ds : List D), ρ[i]? = some (.pw ds) → σ[i]? = some (some (.ref a)) → c.P a
  good : Good c.P c.H0 H
  bt : ∀ a, c.B a → c.H0 a ≠ none
  pb : ∀ a, c.P a → c.B a
  zt : ∀ a, c.Z a → H a ≠ none
  z0 : ∀ a, c.Z a → c.H0 a = none
  zo : ∀ a, c.Z a → ¬ own σ ρ a
structure Step (K : PySem.W.Frag) (c : Bx) (σ : Sg) (H : Hp) (ρ : En) (H' : Hp) (ρ' : En) : Prop where
  good : Good (own σ ρ) H H'
  le : ∀ a, own σ ρ' a → own σ ρ a
  er : ER K c σ H' ρ'
section
variable {K : PySem.W.Frag} {c : Bx} {σ : Sg} {H H' H2 : Hp} {ρ ρ' ρ2 : En}
theorem ER.there (e : ER K c σ H ρ) {a : Addr} (o : OO c σ ρ a) : H a ≠ none := by
  rcases o with o | o | ⟨i, ⟨s, ds, h1, h2⟩, h3⟩
  · exact e.good.there a (e.bt a o)
  · exact e.zt a o
  · obtain ⟨b, vs, q1, q2, _⟩ := e.ow i s ds h1 h2
    rw [h3] at q1; cases q1
    rw [q2]; exact fun z => by cases z
theorem ER.step (e : ER K c σ H ρ) : Step K c σ H ρ H ρ := ⟨Good.refl, fun _ h => h, e⟩
theorem Step.trans (a : Step K c σ H ρ H' ρ') (b : Step K c σ H' ρ' H2 ρ2) : Step K c σ H ρ H2 ρ2 :=
  ⟨a.good.trans b.good fun x h => .inl (a.le x h), fun x h => a.le x (b.le x h), b.er⟩
theorem OO.le (a : Step K c σ H ρ H' ρ') {x : Addr} (h : OO c σ ρ' x) : OO c σ ρ x := h.imp id (Or.imp id (a.le x))
/-- what was a value is one -/
theorem Step.rep (a : Step K c σ H ρ H' ρ') {v : V} {d : D} (h : Rep K (OO c σ ρ) H v d) : Rep K (OO c σ ρ') H' v d :=
  (h.g (a.good.mono fun x z => .inr (.inr z))).m fun x z _ => OO.le a z
theorem Step.reps (a : Step K c σ H ρ H' ρ') {v : List V} {d : List D} (h : Reps K (OO c σ ρ) H v d) : Reps K (OO c σ ρ') H' v d :=
  (h.g (a.good.mono fun x z => .inr (.inr z))).m fun x z _ => OO.le a z
/-- new objects alone -/
theorem ER.grow (e : ER K c σ H ρ) (g : ∀ b o, H b = some o → H' b = some o) : ER K c σ H' ρ := by
  have gd : Good (fun _ => False) H H' := ⟨fun b o q _ => g b o q, fun b q => by
    cases z : H b with
    | none => exact absurd z q
    | some o => rw [g b o z]; exact fun y => by cases y⟩
  refine ⟨e.len, fun i d h => ?_, fun i s ds h1 h2 => ?_, e.one, e.mine, e.lent, e.good.trans gd fun _ h => h.elim, e.bt, e.pb, fun a z => gd.there a (e.zt a z), e.z0, e.zo⟩
  · obtain ⟨v, q, r⟩ := e.fz i d h
    exact ⟨v, q, r.g (gd.mono fun _ h => h.elim)⟩
  · obtain ⟨a, vs, q1, q2, r⟩ := e.ow i s ds h1 h2
    exact ⟨a, vs, q1, g _ _ q2, r.g (gd.mono fun _ h => h.elim)⟩
theorem ER.grown (e : ER K c σ H ρ) (g : ∀ b o, H b = some o → H' b = some o) : Step K c σ H ρ H' ρ :=
  ⟨⟨fun b o q _ => g b o q, fun b q => by
    cases z : H b with
    | none => exact absurd z q
    | some o => rw [g b o z]; exact fun y => by cases y⟩, fun _ h => h, e.grow g⟩
theorem grow_upd {p : Addr} {o : HO} (h : H p = none) : ∀ b u, H b = some u → (upd H p o) b = some u := fun b u e => by rw [upd_ne (ne_of_none e h)]; exact e
end

section
variable {K : PySem.W.Frag} {c : Bx} {σ : Sg} {H H' : Hp} {ρ : En}
/-- a working list more (new), or less -/
def Bx.more (c : Bx) (p : Addr) : Bx := { c with Z := fun a => c.Z a ∨ a = p }
theorem ER.more (er : ER K c σ H ρ) {p : Addr} {o : HO} (hp : H p = none) : ER K (c.more p) σ (upd H p o) ρ := by
  have m : ∀ b, OO (c.more p) σ ρ b → H b ≠ none → OO c σ ρ b := fun b z hb => by
    rcases z with z | (z | z) | z
    · exact .inl z
    · exact .inr (.inl z)
    · exact absurd (z ▸ hp) hb
    · exact .inr (.inr z)
  have h0 : c.H0 p = none := er.good.free hp
  refine ⟨er.len, fun i d h => ?_, fun i s ds h1 h2 => ?_, er.one, er.mine, er.lent, er.good.trans (Good.upd hp) (O' := c.P) fun _ z => .inl z, er.bt, er.pb, fun a z => ?_, fun a z => z.elim (er.z0 a) fun e => e ▸ h0, fun a z y => z.elim (fun q => er.zo a q y) fun e => ?_⟩
  · obtain ⟨v, q, r⟩ := er.fz i d h
    exact ⟨v, q, (r.m m).g (Good.upd hp)⟩
  · obtain ⟨a, vs, q1, q2, r⟩ := er.ow i s ds h1 h2
    exact ⟨a, vs, q1, by rw [upd_ne (ne_of_none q2 hp)]; exact q2, (r.m m).g (Good.upd hp)⟩
  · rcases z with z | z
    · exact (Good.upd (O := fun _ => False) hp).there a (er.zt a z)
    · rw [z, upd_same]; exact fun y => by cases y
  · exact er.there (.inr (.inr y)) (e ▸ hp)
theorem ER.less {p : Addr} (er : ER K (c.more p) σ H ρ) : ER K c σ H ρ := by
  have m : ∀ b, OO c σ ρ b → OO (c.more p) σ ρ b := fun b z => z.imp id (Or.imp .inl id)
  refine ⟨er.len, fun i d h => ?_, fun i s ds h1 h2 => ?_, er.one, er.mine, er.lent, er.good, er.bt, er.pb, fun a z => er.zt a (.inl z), fun a z => er.z0 a (.inl z), fun a z => er.zo a (.inl z)⟩
  · obtain ⟨v, q, r⟩ := er.fz i d h
    exact ⟨v, q, r.m fun b z _ => m b z⟩
  · obtain ⟨a, vs, q1, q2, r⟩ := er.ow i s ds h1 h2
    exact ⟨a, vs, q1, q2, r.m fun b z _ => m b z⟩
theorem more_le {p b : Addr} (z : OO (c.more p) σ ρ b) : OO c σ ρ b ∨ b = p := by
  rcases z with z | (z | z) | z
  · exact .inl (.inl z)
  · exact .inl (.inr (.inl z))
  · exact .inr z
  · exact .inl (.inr (.inr z))
theorem ER.moreG (er : ER K c σ H ρ) {p : Addr} (hp : H p = none) (g : ∀ b o, H b = some o → H' b = some o) (hn : H' p ≠ none) : ER K (c.more p) σ H' ρ := by
  have gd : Good (fun _ => False) H H' := ⟨fun b o q _ => g b o q, fun b q => by
    cases z : H b with
    | none => exact absurd z q
    | some o => rw [g b o z]; exact fun y => by cases y⟩
  have m : ∀ b, OO (c.more p) σ ρ b → H b ≠ none → OO c σ ρ b := fun b z hb => (more_le z).elim id fun e => absurd (e ▸ hp) hb
  have h0 : c.H0 p = none := er.good.free hp
  refine ⟨er.len, fun i d h => ?_, fun i s ds h1 h2 => ?_, er.one, er.mine, er.lent, er.good.trans gd fun _ z => z.elim, er.bt, er.pb, fun a z => z.elim (fun z => gd.there a (er.zt a z)) fun e => e ▸ hn, fun a z => z.elim (er.z0 a) fun e => e ▸ h0, fun a z y => z.elim (fun q => er.zo a q y) fun e => er.there (.inr (.inr y)) (e ▸ hp)⟩
  · obtain ⟨v, q, r⟩ := er.fz i d h
    exact ⟨v, q, (r.m m).g (gd.mono fun _ z => z.elim)⟩
  · obtain ⟨a, vs, q1, q2, r⟩ := er.ow i s ds h1 h2
    exact ⟨a, vs, q1, g _ _ q2, (r.m m).g (gd.mono fun _ z => z.elim)⟩
end
/-! ### readings -/
/-- how an exception of the program stands: its class (at C c), its own dict with its one field -/
structure Ck where
  at_ : Str → Addr
  fld : Str → Str
def XRep (K : PySem.W.Frag) (C : Ck) (O : Addr → Prop) (H : Hp) (cls : Value) (dd : Option Addr) (n : Str) (d : D) : Prop :=
  cls = .ref (C.at_ n) ∧ ∃ (a : Addr) (v : V), dd = some a ∧ H a = some (.xd [(C.fld n, v)]) ∧ ¬ O a ∧ Rep K O H v d
section
variable (K : PySem.W.Frag) (C : Ck) (W : L2.WX)
def EX (c : Bx) (σ : Sg) (H : Hp) (ρ : En) : Str → D → En → Prop := fun n d ρ' => ∀ cls dd H', Step K c σ H ρ H' ρ' → XRep K C (OO c σ ρ') H' cls dd n d → W cls dd σ H'
/-- an expression whose value is d -/
def tD (f : En → Res D) : TE := fun σ H Q => ∃ c ρ, ER K c σ H ρ ∧ wpR (f ρ) (fun d ρ' => ∀ v H', Step K c σ H ρ H' ρ' → Rep K (OO c σ ρ') H' v d → Q v H') (EX K C W c σ H ρ)
/-- an expression whose value is a new list -/
def tF (f : En → Res (List D)) : TE := fun σ H Q => ∃ c ρ, ER K c σ H ρ ∧ wpR (f ρ) (fun ds ρ' => ∀ a vs H', Step K c σ H ρ H' ρ' → H a = none → H' a = some (.lst vs) → ER K (c.more a) σ H' ρ' → Reps K (OO (c.more a) σ ρ') H' vs ds → Q (.ref a) H') (EX K C W c σ H ρ)
/-- a test -/
def tT (f : En → Res Bool) : TT := fun σ H Q => ∃ c ρ, ER K c σ H ρ ∧ wpR (f ρ) (fun b ρ' => ∀ H', Step K c σ H ρ H' ρ' → Q b H') (EX K C W c σ H ρ)
/-- arguments -/
def tA (f : En → Res (List D)) : TA := fun σ H Q => ∃ c ρ, ER K c σ H ρ ∧ wpR (f ρ) (fun ds ρ' => ∀ vs H', Step K c σ H ρ H' ρ' → Reps K (OO c σ ρ') H' vs ds → Q vs H') (EX K C W c σ H ρ)
end
section
variable {X : Cx} {e : Expr} {t t' : TE}
theorem _root_.L2.PE.imp (h : PE X e t) (i : ∀ σ H Q, t' σ H Q → t σ H Q) : PE X e t' := ⟨fun pins s σ H Q I q => h.run pins s σ H Q I (i σ H Q q)⟩
theorem _root_.L2.PT.imp {t t' : TT} (h : PT X e t) (i : ∀ σ H Q, t' σ H Q → t σ H Q) : PT X e t' := ⟨fun pins s σ H Q I q => h.run pins s σ H Q I (i σ H Q q)⟩
theorem _root_.L2.PA.imp {es : List Expr} {t t' : TA} (h : PA X es t) (i : ∀ σ H Q, t' σ H Q → t σ H Q) : PA X es t' := ⟨fun pos pins s σ H Q I q => h.run pos pins s σ H Q I (i σ H Q q)⟩
theorem _root_.L2.PS.imp {st : Stmt} {t t' : TS} (h : PS X st t) (i : ∀ D σ H, t' D σ H → t D σ H) : PS X st t' := ⟨fun pins s σ H D I q => h.run pins s σ H D I (i D σ H q)⟩
theorem _root_.L2.PSs.imp {st : List Stmt} {t t' : TS} (h : PSs X st t) (i : ∀ D σ H, t' D σ H → t D σ H) : PSs X st t' := ⟨fun pins s σ H D I q => h.run pins s σ H D I (i D σ H q)⟩
end
section
variable {K : PySem.W.Frag} {C : Ck} {W : L2.WX} {σ : Sg} {H : Hp} {c : Bx} {ρ : En}
theorem EX.after {H1 : Hp} {ρ1 : En} (s : Step K c σ H ρ H1 ρ1) {n : Str} {d : D} {ρ' : En} (h : EX K C W c σ H ρ n d ρ') : EX K C W c σ H1 ρ1 n d ρ' := fun cls dd H' s' x => h cls dd H' (s.trans s') x
/-- one part read, then the rest -/
theorem tD_bind {α : Type} {f : En → Res D} {g : D → En → Res α} {Q : VK} {R : α → En → Prop} (er : ER K c σ H ρ) (h : wpR ((f ρ).bind g) R (EX K C W c σ H ρ))
    (k : ∀ d ρ1 v H1, Step K c σ H ρ H1 ρ1 → Rep K (OO c σ ρ1) H1 v d → wpR (g d ρ1) R (EX K C W c σ H ρ) → Q v H1) : tD K C W f σ H Q :=
  ⟨c, ρ, er, wpR_mono (wpR_bind.mp h) (fun d ρ1 q v H1 s r => k d ρ1 v H1 s r q) fun _ _ _ x => x⟩
theorem tF_bind {α : Type} {f : En → Res (List D)} {g : List D → En → Res α} {Q : VK} {R : α → En → Prop} (er : ER K c σ H ρ) (h : wpR ((f ρ).bind g) R (EX K C W c σ H ρ))
    (k : ∀ ds ρ1 a vs H1, Step K c σ H ρ H1 ρ1 → H a = none → H1 a = some (.lst vs) → ER K (c.more a) σ H1 ρ1 → Reps K (OO (c.more a) σ ρ1) H1 vs ds → wpR (g ds ρ1) R (EX K C W c σ H ρ) → Q (.ref a) H1) : tF K C W f σ H Q :=
  ⟨c, ρ, er, wpR_mono (wpR_bind.mp h) (fun d ρ1 q a vs H1 s hn he em r => k d ρ1 a vs H1 s hn he em r q) fun _ _ _ x => x⟩
theorem tT_bind {α : Type} {f : En → Res Bool} {g : Bool → En → Res α} {Q : Bool → Hp → Prop} {R : α → En → Prop} (er : ER K c σ H ρ) (h : wpR ((f ρ).bind g) R (EX K C W c σ H ρ))
    (k : ∀ b ρ1 H1, Step K c σ H ρ H1 ρ1 → wpR (g b ρ1) R (EX K C W c σ H ρ) → Q b H1) : tT K C W f σ H Q :=
  ⟨c, ρ, er, wpR_mono (wpR_bind.mp h) (fun d ρ1 q H1 s => k d ρ1 H1 s q) fun _ _ _ x => x⟩
theorem tA_bind {α : Type} {f : En → Res (List D)} {g : List D → En → Res α} {Q : List V → Hp → Prop} {R : α → En → Prop} (er : ER K c σ H ρ) (h : wpR ((f ρ).bind g) R (EX K C W c σ H ρ))
    (k : ∀ ds ρ1 vs H1, Step K c σ H ρ H1 ρ1 → Reps K (OO c σ ρ1) H1 vs ds → wpR (g ds ρ1) R (EX K C W c σ H ρ) → Q vs H1) : tA K C W f σ H Q :=
  ⟨c, ρ, er, wpR_mono (wpR_bind.mp h) (fun d ρ1 q vs H1 s r => k d ρ1 vs H1 s r q) fun _ _ _ x => x⟩
theorem wpR_after {α : Type} {m : Res α} {R R' : α → En → Prop} {H1 : Hp} {ρ1 : En} (s : Step K c σ H ρ H1 ρ1) (h : wpR m R (EX K C W c σ H ρ)) (hR : ∀ a ρ', R a ρ' → R' a ρ') : wpR m R' (EX K C W c σ H1 ρ1) :=
  wpR_mono h hR fun _ _ _ x => x.after s
theorem wpR_ite {α : Type} {p : Prop} [Decidable p] {m : Res α} {R : α → En → Prop} {E : Str → D → En → Prop} (h : wpR (if p then m else .no) R E) : p ∧ wpR m R E := by
  by_cases hp : p
  · rw [if_pos hp] at h; exact ⟨hp, h⟩
  · rw [if_neg hp] at h; exact h.elim
@[simp] def optR {α β : Type} (o : Option β) (f : β → Res α) : Res α := match o with
  | some b => f b
  | none => .no
theorem wpR_opt {α β : Type} {o : Option β} {f : β → Res α} {R : α → En → Prop} {E : Str → D → En → Prop} (h : wpR (optR o f) R E) : ∃ b, o = some b ∧ wpR (f b) R E := by
  cases o with
  | none => exact h.elim
  | some b => exact ⟨b, rfl, h⟩
/-- a new list as a value -/
theorem frz_rep {a : Addr} {vs : List V} {ds : List D} {H1 : Hp} {ρ1 : En} (er : ER K c σ H ρ) (s : Step K c σ H ρ H1 ρ1) (hn : H a = none) (he : H1 a = some (.lst vs)) (r : Reps K (OO (c.more a) σ ρ1) H1 vs ds) : Rep K (OO c σ ρ1) H1 (.ref a) (.lst ds) :=
  .lst ⟨fun z => er.there (OO.le s z) hn, he⟩ (r.m fun _ z _ => z.imp id (Or.imp .inl id))
end

/-! ### constants, names -/
section
variable {X : Cx} {C : Ck} {W : L2.WX} {pos : Pos}
@[simp] def dC (d : D) : En → Res D := fun ρ => .ok d ρ
theorem pe_c {e : Expr} {v : V} {d : D} (h : PE X e (tC v)) (r : ∀ O H, Rep X.K O H v d) : PE X e (tD X.K C W (dC d)) := h.imp fun σ H Q ⟨c, ρ, er, q⟩ => q v H er.step (r _ _)
theorem d_int {i : Int} {j : Nat} : PE X (.Constant (.int i) j pos) (tD X.K C W (dC (.int i))) := pe_c pe_int fun _ _ => .int i
theorem d_bl {b : Bool} {j : Nat} : PE X (.Constant (.bool b) j pos) (tD X.K C W (dC (.bl b))) := pe_c pe_bl fun _ _ => .bl b
theorem d_non {j : Nat} : PE X (.Constant .none j pos) (tD X.K C W (dC .non)) := pe_c pe_non fun _ _ => .non
theorem d_str {x : Str} {j : Nat} (l : List Nat) (h : x = toS l) (o : okS l = true) : PE X (.Constant (.str x) j pos) (tD X.K C W (dC (.str l))) := pe_c pe_str fun _ _ => by rw [h]; exact .str l o
theorem d_glob {x : Str} {v : V} {u : Value} {d : D} (hg : Gl X x) (hm : X.mg x = some u) (rv : RelV v u) (r : ∀ O H, Rep X.K O H v d) (hd : (x == ("__debug__" : Str)) = false := by decide) : PE X (.Name x pos) (tD X.K C W (dC d)) := pe_c (pe_glob hg hm rv hd) r

@[simp] def dVar (i : Nat) : En → Res D := fun ρ => match ρ[i]? with
  | some (.fz d) => .ok d ρ
  | some (.ow ds) => .ok (.lst ds) (ρ.set i (.fz (.lst ds)))
  | _ => .no
/-- a list of one's own is written no more -/
theorem ER.freeze {K : PySem.W.Frag} {c : Bx} {σ : Sg} {H : Hp} {ρ : En} {i : Nat} {ds : List D} (er : ER K c σ H ρ) (h : ρ[i]? = some (.ow ds)) :
    ∃ a, σ[i]? = some (some (.ref a)) ∧ Step K c σ H ρ H (ρ.set i (.fz (.lst ds))) ∧ Rep K (OO c σ (ρ.set i (.fz (.lst ds)))) H (.ref a) (.lst ds) := by
  obtain ⟨a, vs, q1, q2, r⟩ := er.ow i _ ds h rfl
  have hi : i < ρ.length := (List.getElem?_eq_some_iff.mp h).1
  have at_ : ∀ j b, ownAt σ (ρ.set i (.fz (.lst ds))) j b → j ≠ i ∧ ownAt σ ρ j b := fun j b ⟨⟨s, es, z1, z2⟩, z3⟩ => by
    by_cases hj : j = i
    · subst hj
      rw [List.getElem?_set_self hi] at z1; cases z1; cases z2
    · rw [List.getElem?_set_ne (Ne.symm hj)] at z1
      exact ⟨hj, ⟨s, es, z1, z2⟩, z3⟩
  have le : ∀ b, own σ (ρ.set i (.fz (.lst ds))) b → own σ ρ b := fun b ⟨j, z⟩ => ⟨j, (at_ j b z).2⟩
  have le2 : ∀ b, OO c σ (ρ.set i (.fz (.lst ds))) b → OO c σ ρ b := fun b z => z.imp id (Or.imp id (le b))
  have na : ¬ OO c σ (ρ.set i (.fz (.lst ds))) a := by
    rintro (z | z | ⟨j, z⟩)
    · exact er.bt a z (er.mine i a ds h q1)
    · exact er.zo a z ⟨i, ⟨_, ds, h, rfl⟩, q1⟩
    · obtain ⟨hj, z⟩ := at_ j a z
      exact hj (er.one j i a z ⟨⟨_, ds, h, rfl⟩, q1⟩)
  have rep : Rep K (OO c σ (ρ.set i (.fz (.lst ds)))) H (.ref a) (.lst ds) := .lst ⟨na, q2⟩ (r.m fun b z _ => le2 b z)
  refine ⟨a, q1, ⟨Good.refl, le, ?_⟩, rep⟩
  refine ⟨by rw [List.length_set]; exact er.len, fun j d hj => ?_, fun j s es hj hs => ?_, fun j k b hj hk => er.one j k b (at_ j b hj).2 (at_ k b hk).2, fun j b es hj hb => ?_, fun j b es hj hb => ?_, er.good, er.bt, er.pb, er.zt, er.z0, fun b z y => er.zo b z (le b y)⟩
  · by_cases e : j = i
    · subst e
      rw [List.getElem?_set_self hi] at hj; cases hj
      exact ⟨_, q1, rep⟩
    · rw [List.getElem?_set_ne (Ne.symm e)] at hj
      obtain ⟨v, z1, z2⟩ := er.fz j d hj
      exact ⟨v, z1, z2.m fun b z _ => le2 b z⟩
  · by_cases e : j = i
    · subst e
      rw [List.getElem?_set_self hi] at hj; cases hj; cases hs
    · rw [List.getElem?_set_ne (Ne.symm e)] at hj
      obtain ⟨b, vs', z1, z2, z3⟩ := er.ow j s es hj hs
      exact ⟨b, vs', z1, z2, z3.m fun b z _ => le2 b z⟩
  · by_cases e : j = i
    · subst e
      rw [List.getElem?_set_self hi] at hj; cases hj
    · rw [List.getElem?_set_ne (Ne.symm e)] at hj
      exact er.mine j b es hj hb
  · by_cases e : j = i
    · subst e
      rw [List.getElem?_set_self hi] at hj; cases hj
    · rw [List.getElem?_set_ne (Ne.symm e)] at hj
      exact er.lent j b es hj hb
theorem d_var' {i : Nat} {x : Str} (h : PE X (.Name x pos) (tVar i)) : PE X (.Name x pos) (tD X.K C W (dVar i)) := h.imp fun σ H Q ⟨c, ρ, er, q⟩ => by
  unfold dVar at q
  cases hr : ρ[i]? with
  | none => rw [hr] at q; exact q.elim
  | some s =>
    rw [hr] at q
    cases s with
    | no => exact q.elim
    | pw ds => exact q.elim
    | fz d =>
      obtain ⟨v, z1, z2⟩ := er.fz i d hr
      exact ⟨v, z1, q v H er.step z2⟩
    | ow ds =>
      obtain ⟨a, z1, z2, z3⟩ := er.freeze hr
      exact ⟨_, z1, q _ H z2 z3⟩
theorem d_var (i : Nat) {x : Str} {pos : Pos} (hN : X.N[i]? = some x := by rfl) (hv : Vis X.env.scope x := by first | exact Or.inl rfl | exact Or.inr (Or.inl rfl) | exact Or.inr (Or.inr rfl)) (hd : (x == ("__debug__" : Str)) = false := by decide)
    (hcd : (x == ("__classdict__" : Str)) = false := by decide) : PE X (.Name x pos) (tD X.K C W (dVar i)) := d_var' (pe_var hN hv hd hcd)
/-- a new list as a value -/
@[simp] def dFz (f : En → Res (List D)) : En → Res D := fun ρ => (f ρ).bind fun ds ρ' => .ok (.lst ds) ρ'
theorem d_fz {e : Expr} {f : En → Res (List D)} (h : PE X e (tF X.K C W f)) : PE X e (tD X.K C W (dFz f)) := h.imp fun σ H Q ⟨c, ρ, er, q⟩ => by
  refine tF_bind er q fun ds ρ1 a vs H1 s hn he em r q => ?_
  exact q _ H1 s (frz_rep er s hn he r)

/-! ### operators by values -/
/-- an operator on two values -/
def OpD (K : PySem.W.Frag) (r : R2) (g : D → D → Option D) : Prop := ∀ (O : Addr → Prop) (H : Hp) (x y : V) (d e z : D) (Q : VK), (∀ a, O a → H a ≠ none) → Rep K O H x d → Rep K O H y e → g d e = some z →
  (∀ v H', (∀ b o, H b = some o → H' b = some o) → Rep K O H' v z → Q v H') → r x y H Q
@[simp] def dBin (g : D → D → Option D) (f1 f2 : En → Res D) : En → Res D := fun ρ => (f1 ρ).bind fun d ρ1 => (f2 ρ1).bind fun e ρ2 => optR (g d e) fun z => .ok z ρ2
theorem bin_imp {K : PySem.W.Frag} {r : R2} {g : D → D → Option D} {f1 f2 : En → Res D} (o : OpD K r g) : ∀ σ H Q, tD K C W (dBin g f1 f2) σ H Q → tOp r (tD K C W f1) (tD K C W f2) σ H Q := fun σ H Q ⟨c, ρ, er, q⟩ => by
  refine tD_bind er q fun d ρ1 v H1 s1 r1 q1 => ?_
  refine tD_bind s1.er (wpR_after s1 q1 fun _ _ z => z) fun e ρ2 w H2 s2 r2 q2 => ?_
  obtain ⟨z, hz, q3⟩ := wpR_opt q2
  exact o _ H2 v w d e z Q (fun a h => s2.er.there h) (s2.rep r1) r2 hz fun u H3 g3 r3 => q3 u H3 ((s1.trans s2).trans (s2.er.grown g3)) r3
theorem d_bin {op : Operator} {a b : Expr} {r : R2} {g : D → D → Option D} {f1 f2 : En → Res D} (ho : OpR X (binaryOp op) r) (o : OpD X.K r g) (ha : PE X a (tD X.K C W f1)) (hb : PE X b (tD X.K C W f2)) :
    PE X (.BinOp a op b pos) (tD X.K C W (dBin g f1 f2)) := (pe_op ho ha hb).imp (bin_imp o)
theorem d_cmp {op : CmpOp} {a b : Expr} {r : R2} {g : D → D → Option D} {f1 f2 : En → Res D} (ho : OpR X (compareOp op) r) (o : OpD X.K r g) (ha : PE X a (tD X.K C W f1)) (hb : PE X b (tD X.K C W f2)) (hm : behindInMarks op b = false) :
    PE X (.Compare a [op] [b] pos) (tD X.K C W (dBin g f1 f2)) := (pe_cmpR ho ha hb hm).imp (bin_imp o)
end
end DL

namespace DL
open PySem PySem.Spec PyProof.Rows L2

/-! ### values compared -/
mutual
def D.eqv : D → D → Bool
  | .non, .non => true
  | .bl a, .bl b => a == b
  | .bl a, .int j => (if a then 1 else 0) == j
  | .int i, .bl b => i == (if b then 1 else 0)
  | .int i, .int j => i == j
  | .str x, .str y => x == y
  | .lst x, .lst y => D.eqvs x y
  | .tup x, .tup y => D.eqvs x y
  | .non, .bl _ | .non, .int _ | .non, .str _ | .non, .lst _ | .non, .tup _ => false
  | .bl _, .non | .bl _, .str _ | .bl _, .lst _ | .bl _, .tup _ => false
  | .int _, .non | .int _, .str _ | .int _, .lst _ | .int _, .tup _ => false
  | .str _, .non | .str _, .bl _ | .str _, .int _ | .str _, .lst _ | .str _, .tup _ => false
  | .lst _, .non | .lst _, .bl _ | .lst _, .int _ | .lst _, .str _ | .lst _, .tup _ => false
  | .tup _, .non | .tup _, .bl _ | .tup _, .int _ | .tup _, .str _ | .tup _, .lst _ => false
  | .scr _, .non | .scr _, .bl _ | .scr _, .int _ | .scr _, .str _ | .scr _, .lst _ | .scr _, .tup _ | .scr _, .scr _ => false
  | .non, .scr _ | .bl _, .scr _ | .int _, .scr _ | .str _, .scr _ | .lst _, .scr _ | .tup _, .scr _ => false
def D.eqvs : List D → List D → Bool
  | [], [] => true
  | x :: xs, y :: ys => D.eqv x y && D.eqvs xs ys
  | [], _ :: _ => false
  | _ :: _, [] => false
end
mutual
def D.toPy : D → PyData
  | .non => .none
  | .bl b => .bool b
  | .int i => .int i
  | .str x => .str (toS x)
  | .lst l => .list (D.toPys l)
  | .tup l => .tuple (D.toPys l)
  | .scr _ => .dict []
def D.toPys : List D → List PyData
  | [] => []
  | d :: r => D.toPy d :: D.toPys r
end
mutual
/-- nested at most n deep -/
def D.dle : Nat → D → Bool
  | _, .non => true
  | _, .bl _ => true
  | _, .int _ => true
  | _, .str _ => true
  | n, .lst l => D.dles n l
  | n, .tup l => D.dles n l
  | _, .scr _ => false
def D.dles : Nat → List D → Bool
  | _, [] => true
  | 0, _ :: _ => false
  | n + 1, d :: r => D.dle n d && D.dles (n + 1) r
end
theorem toS_beq (x y : List Nat) : (toS x == toS y) = (x == y) := by
  rw [Bool.eq_iff_iff, beq_iff_eq, beq_iff_eq]
  exact ⟨toS_inj, fun e => by rw [e]⟩
mutual
theorem eqv_toPy : ∀ d e : D, PyData.eqv d.toPy e.toPy = D.eqv d e
  | .non, e => by cases e <;> simp [D.toPy, PyData.eqv, D.eqv]
  | .bl b, e => by cases e <;> simp [D.toPy, PyData.eqv, D.eqv]
  | .int i, e => by cases e <;> simp [D.toPy, PyData.eqv, D.eqv]
  | .str x, e => by cases e <;> simp only [D.toPy, PyData.eqv, D.eqv]; exact toS_beq _ _
  | .lst l, e => by
    cases e <;> simp only [D.toPy, PyData.eqv, D.eqv]
    exact eqvs_toPy _ _
  | .tup l, e => by
    cases e <;> simp only [D.toPy, PyData.eqv, D.eqv]
    exact eqvs_toPy _ _
  | .scr l, e => by cases e <;> simp only [D.toPy, PyData.eqv, D.eqv]
theorem eqvs_toPy : ∀ d e : List D, PyData.eqvAll (D.toPys d) (D.toPys e) = D.eqvs d e
  | [], [] => by simp [D.toPys, PyData.eqvAll, D.eqvs]
  | [], _ :: _ => by simp [D.toPys, PyData.eqvAll, D.eqvs]
  | _ :: _, [] => by simp [D.toPys, PyData.eqvAll, D.eqvs]
  | x :: xs, y :: ys => by simp only [D.toPys, PyData.eqvAll, D.eqvs, eqv_toPy x y, eqvs_toPy xs ys]
end
mutual
theorem dle_depth : ∀ (n : Nat) (d : D), D.dle n d = true → d.toPy.depth ≤ n + 1
  | _, .non, _ => by simp [D.toPy, PyData.depth]
  | _, .bl _, _ => by simp [D.toPy, PyData.depth]
  | _, .int _, _ => by simp [D.toPy, PyData.depth]
  | _, .str _, _ => by simp [D.toPy, PyData.depth]
  | n, .lst l, h => by simp only [D.toPy, PyData.depth]; have := dles_depth n l (by simpa [D.dle] using h); omega
  | n, .tup l, h => by simp only [D.toPy, PyData.depth]; have := dles_depth n l (by simpa [D.dle] using h); omega
  | _, .scr _, h => by simp [D.dle] at h
theorem dles_depth : ∀ (n : Nat) (l : List D), D.dles n l = true → PyData.depthAll (D.toPys l) ≤ n
  | _, [], _ => by simp [D.toPys, PyData.depthAll]
  | 0, _ :: _, h => by simp [D.dles] at h
  | n + 1, d :: r, h => by
    simp only [D.dles, Bool.and_eq_true_iff] at h
    have h1 := dle_depth n d h.1
    have h2 := dles_depth (n + 1) r h.2
    simp only [D.toPys, PyData.depthAll]; omega
end
section
variable {K : PySem.W.Frag} {O : Addr → Prop} {H : Hp}
mutual
theorem Rep.canLay : ∀ (d : D) (v : V) (n : Nat), Rep K O H v d → D.dle n d = true → PyData.canLay0 d.toPy = true
  | .non, _, _, _, _ => rfl
  | .bl _, _, _, _, _ => rfl
  | .int _, _, _, _, _ => rfl
  | .scr _, _, _, _, h => by simp [D.dle] at h
  | .str x, _, _, h, _ => by
    have h := okS_all h.strOk
    simp only [D.toPy, PyData.canLay0, PyData.strOk, toS]
    simpa [Array.all_eq_true] using h
  | .lst l, _, n, h, l2 => by
    cases h with | lst a r =>
    simp only [D.toPy, PyData.canLay0]; exact Reps.canLay l _ n r (by simpa [D.dle] using l2)
  | .tup l, _, n, h, l2 => by
    cases h with | tup a r =>
    simp only [D.toPy, PyData.canLay0]; exact Reps.canLay l _ n r (by simpa [D.dle] using l2)
theorem Reps.canLay : ∀ (d : List D) (v : List V) (n : Nat), Reps K O H v d → D.dles n d = true → PyData.canLayAll0 (D.toPys d) = true
  | [], _, _, _, _ => rfl
  | _ :: _, _, 0, _, h => by simp [D.dles] at h
  | d :: r, _, n + 1, h, l => by
    cases h with | cons a q =>
    simp only [D.dles, Bool.and_eq_true_iff] at l
    simp only [D.toPys, PyData.canLayAll0, Bool.and_eq_true_iff]
    exact ⟨Rep.canLay d _ n a l.1, Reps.canLay r _ (n + 1) q l.2⟩
end
mutual
theorem Rep.dp : ∀ (d : D) (v : V) (n : Nat), Rep K O H v d → D.dle n d = true → Dp K H v d.toPy
  | .non, _, _, h, _ => by cases h; exact .non
  | .bl b, _, _, h, _ => by cases h; exact .bl b
  | .int i, _, _, h, _ => by cases h; exact .int i
  | .str x, _, _, h, _ => by cases h; exact .str _
  | .scr _, _, _, _, h => by simp [D.dle] at h
  | .lst l, _, n, h, l2 => by
    cases h with | lst a r =>
    exact .lst a.sq (Reps.dp l _ n r (by simpa [D.dle] using l2))
  | .tup l, _, n, h, l2 => by
    cases h with | tup a r =>
    exact .tup a.sq (Reps.dp l _ n r (by simpa [D.dle] using l2))
theorem Reps.dp : ∀ (d : List D) (v : List V) (n : Nat), Reps K O H v d → D.dles n d = true → DpAll K H v (D.toPys d)
  | [], _, _, h, _ => by cases h; exact .nil
  | _ :: _, _, 0, _, h => by simp [D.dles] at h
  | d :: r, _, n + 1, h, l => by
    cases h with | cons a q =>
    simp only [D.dles, Bool.and_eq_true_iff] at l
    exact .cons (Rep.dp d _ n a l.1) (Reps.dp r _ (n + 1) q l.2)
end
theorem Rep.shaped {d : D} {v : V} (h : Rep K O H v d) (l : D.dle 62 d = true) : SeqAt.shaped d.toPy = true := by
  unfold SeqAt.shaped
  rw [Bool.and_eq_true_iff]
  exact ⟨Rep.canLay d v 62 h l, decide_eq_true (Nat.le_trans (dle_depth 62 d l) (by decide))⟩
end
def flat : D → Bool
  | .lst _ => false
  | .tup _ => false
  | _ => true
def gEq (d e : D) : Option D := if (D.dle 62 d && D.dle 62 e) = true then some (.bl (D.eqv d e)) else none
def gNe (d e : D) : Option D := if (D.dle 62 d && D.dle 62 e) = true then some (.bl (!D.eqv d e)) else none
section
variable {X : Cx}
theorem eqD_ok {K : PySem.W.Frag} : OpD K (rEqD K) gEq := fun O H x y d e z Q _ rx ry hz q => by
  unfold gEq at hz
  by_cases h : (D.dle 62 d && D.dle 62 e) = true
  · rw [if_pos h] at hz; cases hz
    rw [Bool.and_eq_true_iff] at h
    refine ⟨_, _, Rep.dp d x 62 rx h.1, Rep.dp e y 62 ry h.2, rx.shaped h.1, ry.shaped h.2, ?_⟩
    rw [eqv_toPy]
    exact q _ H (fun _ _ h => h) (.bl _)
  · rw [if_neg h] at hz; cases hz
theorem neD_ok {K : PySem.W.Frag} : OpD K (rNeD K) gNe := fun O H x y d e z Q _ rx ry hz q => by
  unfold gNe at hz
  by_cases h : (D.dle 62 d && D.dle 62 e) = true
  · rw [if_pos h] at hz; cases hz
    rw [Bool.and_eq_true_iff] at h
    refine ⟨_, _, Rep.dp d x 62 rx h.1, Rep.dp e y 62 ry h.2, rx.shaped h.1, ry.shaped h.2, ?_⟩
    rw [eqv_toPy]
    exact q _ H (fun _ _ h => h) (.bl _)
  · rw [if_neg h] at hz; cases hz

/-! ### + -/
def LIM : Nat := 16777216
theorem lim_eq : sizeLine = LIM := sizeLine_eq
@[simp] def gAdd : D → D → Option D
  | .int i, .int j => some (.int (i + j))
  | .str x, .str y => if x.length + y.length ≤ LIM then some (.str (x ++ y)) else none
  | .tup x, .tup y => if x.length + y.length ≤ LIM then some (.tup (x ++ y)) else none
  | .lst x, .lst y => if x.length + y.length ≤ LIM then some (.lst (x ++ y)) else none
  | _, _ => none
def rAddA (K : PySem.W.Frag) : R2 := fun x y H Q => (rI0 fun i j => .int (i + j)) x y H Q ∨ (fun x y H Q => (fun x y H Q => ∃ i j, x = .str i ∧ y = .str j ∧ i.length + j.length ≤ sizeLine ∧ Q (.str (i ++ j)) H) x y H Q ∨
  (fun x y H Q => rCatA K x y H Q ∨ rCat x y H Q) x y H Q) x y H Q
theorem op_addA : OpR X (binaryOp .Add) (rAddA X.K) := op_add.or (op_add_str.or (op_catA.or op_cat))
theorem toS_app (x y : List Nat) : toS x ++ toS y = toS (x ++ y) := by
  show Str.mk _ = _
  simp [toS]
theorem okS_app {x y : List Nat} (h : okS x = true) (h2 : okS y = true) (l : x.length + y.length ≤ LIM) : okS (x ++ y) = true :=
  okS_of (by rw [List.length_append, lim_eq]; exact l) fun c hc => (List.mem_append.mp hc).elim (okS_all h c) (okS_all h2 c)
theorem nO {O : Addr → Prop} {H : Hp} {p : Addr} (hO : ∀ a, O a → H a ≠ none) (hp : H p = none) : ¬ O p := fun z => hO p z hp
theorem new_tup {K : PySem.W.Frag} {O : Addr → Prop} {H : Hp} {p : Addr} {xs : List V} {ds : List D} (hO : ∀ a, O a → H a ≠ none) (hp : H p = none) (r : Reps K O H xs ds) : Rep K O (upd H p (.tup xs)) (.ref p) (.tup ds) :=
  .tup (.inl ⟨nO hO hp, .inl upd_same⟩) (r.g (Good.upd hp))
theorem new_lst {K : PySem.W.Frag} {O : Addr → Prop} {H : Hp} {p : Addr} {xs : List V} {ds : List D} (hO : ∀ a, O a → H a ≠ none) (hp : H p = none) (r : Reps K O H xs ds) : Rep K O (upd H p (.lst xs)) (.ref p) (.lst ds) :=
  .lst ⟨nO hO hp, upd_same⟩ (r.g (Good.upd hp))
theorem addA_ok {K : PySem.W.Frag} : OpD K (rAddA K) gAdd := fun O H x y d e z Q hO rx ry hz q => by
  cases d with
  | non => cases hz
  | bl => cases hz
  | scr => cases hz
  | int i =>
    cases e with
    | int j => cases hz; exact .inl ⟨i, j, rx.intV, ry.intV, q _ H (fun _ _ h => h) (.int _)⟩
    | _ => cases hz
  | str a =>
    cases e with
    | str b =>
      have hz : (if a.length + b.length ≤ LIM then some (D.str (a ++ b)) else none) = some z := hz
      by_cases h : a.length + b.length ≤ LIM
      · rw [if_pos h] at hz; cases hz
        refine .inr (.inl ⟨_, _, rx.strV, ry.strV, by rw [toS_len, toS_len, lim_eq]; exact h, ?_⟩)
        rw [toS_app]
        exact q _ H (fun _ _ h => h) (.str _ (okS_app rx.strOk ry.strOk h))
      · rw [if_neg h] at hz; cases hz
    | _ => cases hz
  | tup a =>
    cases e with
    | tup b =>
      have hz : (if a.length + b.length ≤ LIM then some (D.tup (a ++ b)) else none) = some z := hz
      by_cases h : a.length + b.length ≤ LIM
      · rw [if_pos h] at hz; cases hz
        obtain ⟨p, xs, rfl, t1, r1⟩ := rx.tupV
        obtain ⟨p2, ys, rfl, t2, r2⟩ := ry.tupV
        refine .inr (.inr (.inl ⟨p, p2, xs, ys, rfl, rfl, t1.sq, t2.sq, by rw [r1.length, r2.length, lim_eq]; exact h, fun e => ?_, fun _ e => ?_, fun _ _ p hp => ?_⟩))
        · subst e; cases r1
          exact q _ H (fun _ _ h => h) (by simpa using ry)
        · subst e; cases r2
          exact q _ H (fun _ _ h => h) (by simpa using rx)
        · exact q _ _ (grow_upd hp) (new_tup hO hp (r1.append r2))
      · rw [if_neg h] at hz; cases hz
    | _ => cases hz
  | lst a =>
    cases e with
    | lst b =>
      have hz : (if a.length + b.length ≤ LIM then some (D.lst (a ++ b)) else none) = some z := hz
      by_cases h : a.length + b.length ≤ LIM
      · rw [if_pos h] at hz; cases hz
        obtain ⟨p, xs, rfl, t1, r1⟩ := rx.lstV
        obtain ⟨p2, ys, rfl, t2, r2⟩ := ry.lstV
        refine .inr (.inr (.inr ⟨p, p2, xs, ys, rfl, rfl, t1.2, t2.2, by rw [r1.length, r2.length, lim_eq]; exact h, fun p hp => ?_⟩))
        exact q _ _ (grow_upd hp) (new_lst hO hp (r1.append r2))
      · rw [if_neg h] at hz; cases hz
    | _ => cases hz
/-! ### ints -/
def gI (c : Int → Int → Bool) (f : Int → Int → D) : D → D → Option D
  | .int i, .int j => if c i j = true then some (f i j) else none
  | _, _ => none
theorem gI_some {c : Int → Int → Bool} {f : Int → Int → D} {d e z : D} (h : gI c f d e = some z) : ∃ i j, d = .int i ∧ e = .int j ∧ c i j = true ∧ z = f i j := by
  unfold gI at h
  split at h
  · rename_i i j
    by_cases hc : c i j = true
    · rw [if_pos hc] at h; cases h; exact ⟨i, j, rfl, rfl, hc, rfl⟩
    · rw [if_neg hc] at h; cases h
  · cases h
theorem int_ok {K : PySem.W.Frag} {Cd : Int → Int → Prop} {c : Int → Int → Bool} {g : Int → Int → Int} (hc : ∀ i j, c i j = true → Cd i j) : OpD K (rI Cd fun i j => .int (g i j)) (gI c fun i j => .int (g i j)) := fun O H x y d e z Q _ rx ry hz q => by
  obtain ⟨i, j, rfl, rfl, h, rfl⟩ := gI_some hz
  exact ⟨i, j, rx.intV, ry.intV, hc i j h, q _ H (fun _ _ h => h) (.int _)⟩
theorem int0_ok {K : PySem.W.Frag} {g : Int → Int → Int} : OpD K (rI0 fun i j => .int (g i j)) (gI (fun _ _ => true) fun i j => .int (g i j)) := fun O H x y d e z Q _ rx ry hz q => by
  obtain ⟨i, j, rfl, rfl, h, rfl⟩ := gI_some hz
  exact ⟨i, j, rx.intV, ry.intV, q _ H (fun _ _ h => h) (.int _)⟩
theorem cmp0_ok {K : PySem.W.Frag} {g : Int → Int → Bool} : OpD K (rI0 fun i j => .bl (g i j)) (gI (fun _ _ => true) fun i j => .bl (g i j)) := fun O H x y d e z Q _ rx ry hz q => by
  obtain ⟨i, j, rfl, rfl, h, rfl⟩ := gI_some hz
  exact ⟨i, j, rx.intV, ry.intV, q _ H (fun _ _ h => h) (.bl _)⟩
def cMul (i j : Int) : Bool := decide (-(2 ^ 64) < i ∧ i < 2 ^ 64) || decide (-(2 ^ 64) < j ∧ j < 2 ^ 64)
def gSub := gI (fun _ _ => true) fun i j => .int (i - j)
def gMod := gI (fun _ j => decide (0 < j)) fun i j => .int (i % j)
def gDiv := gI (fun _ j => decide (0 < j ∧ j < 1073741824)) fun i j => .int (i / j)
def gPow := gI (fun i j => decide (0 ≤ j ∧ j ≤ 1000000 ∧ i.natAbs < 2 ^ 64)) fun i j => .int (i ^ j.toNat)
def gLt := gI (fun _ _ => true) fun i j => .bl (decide (i < j))
def gLe := gI (fun _ _ => true) fun i j => .bl (decide (i ≤ j))
def gGt := gI (fun _ _ => true) fun i j => .bl (decide (j < i))
def gGe := gI (fun _ _ => true) fun i j => .bl (decide (j ≤ i))
theorem sub_ok {K : PySem.W.Frag} : OpD K (rI0 fun i j => .int (i - j)) gSub := int0_ok
theorem mod_ok {K : PySem.W.Frag} : OpD K (rI (fun _ j => 0 < j) fun i j => .int (i % j)) gMod := int_ok fun _ _ h => of_decide_eq_true h
theorem div_ok {K : PySem.W.Frag} : OpD K (rI CDiv fun i j => .int (i / j)) gDiv := int_ok fun i j h => (of_decide_eq_true h : 0 < j ∧ j < 1073741824)
theorem pow_ok {K : PySem.W.Frag} : OpD K (rI CPow fun i j => .int (i ^ j.toNat)) gPow := int_ok fun i j h => (of_decide_eq_true h : 0 ≤ j ∧ j ≤ 1000000 ∧ i.natAbs < 2 ^ 64)
theorem lt_ok {K : PySem.W.Frag} : OpD K (rI0 fun i j => .bl (decide (i < j))) gLt := cmp0_ok
theorem le_ok {K : PySem.W.Frag} : OpD K (rI0 fun i j => .bl (decide (i ≤ j))) gLe := cmp0_ok
theorem gt_ok {K : PySem.W.Frag} : OpD K (rI0 fun i j => .bl (decide (j < i))) gGt := cmp0_ok
theorem ge_ok {K : PySem.W.Frag} : OpD K (rI0 fun i j => .bl (decide (j ≤ i))) gGe := cmp0_ok

/-! ### * -/
@[simp] def gMul : D → D → Option D
  | .int i, .int j => if cMul i j = true then some (.int (i * j)) else none
  | .lst l, .int k => if 0 ≤ k ∧ k ≤ 1000 ∧ l.length ≤ 1000 then some (.lst (List.replicate k.toNat l).flatten) else none
  | .tup l, .int k => if 2 ≤ k ∧ k ≤ 1000 ∧ l.length ≤ 1000 ∧ l.length ≠ 0 then some (.tup (List.replicate k.toNat l).flatten) else none
  | _, _ => none
def rMulA (K : PySem.W.Frag) : R2 := fun x y H Q => (rI CMul fun i j => .int (i * j)) x y H Q ∨ (fun x y H Q => rRep x y H Q ∨ rRepT K x y H Q) x y H Q
theorem op_mulA : OpR X (binaryOp .Mult) (rMulA X.K) := op_mul.or (op_rep.or op_repT)
theorem mulA_ok {K : PySem.W.Frag} : OpD K (rMulA K) gMul := fun O H x y d e z Q hO rx ry hz q => by
  unfold gMul at hz
  split at hz
  · rename_i i j
    by_cases h : cMul i j = true
    · rw [if_pos h] at hz; cases hz
      refine .inl ⟨i, j, rx.intV, ry.intV, ?_, q _ H (fun _ _ h => h) (.int _)⟩
      unfold cMul at h
      rw [Bool.or_eq_true_iff] at h
      exact h.imp of_decide_eq_true of_decide_eq_true
    · rw [if_neg h] at hz; cases hz
  · rename_i l k
    by_cases h : 0 ≤ k ∧ k ≤ 1000 ∧ l.length ≤ 1000
    · rw [if_pos h] at hz; cases hz
      obtain ⟨p, xs, rfl, t1, r1⟩ := rx.lstV
      have hn : k.toNat ≤ 1000 := by omega
      have hm : xs.length * k.toNat ≤ 1000 * 1000 := Nat.mul_le_mul (by rw [r1.length]; exact h.2.2) hn
      refine .inr (.inl ⟨p, k, xs, rfl, ry.intV, t1.2, by omega, by omega, by rw [sizeLine_eq]; omega, fun p hp => ?_⟩)
      exact q _ _ (grow_upd hp) (new_lst hO hp (r1.rep _))
    · rw [if_neg h] at hz; cases hz
  · rename_i l k
    by_cases h : 2 ≤ k ∧ k ≤ 1000 ∧ l.length ≤ 1000 ∧ l.length ≠ 0
    · rw [if_pos h] at hz; cases hz
      obtain ⟨p, xs, rfl, t1, r1⟩ := rx.tupV
      have hl := r1.length
      refine .inr (.inr ⟨p, k, xs, rfl, ry.intV, t1.sq, fun z => ?_, h.1, h.2.1, by rw [hl]; exact h.2.2.1, fun p hp => ?_⟩)
      · rw [z] at hl; exact h.2.2.2 hl.symm
      · exact q _ _ (grow_upd hp) (new_tup hO hp (r1.rep _))
    · rw [if_neg h] at hz; cases hz
  · cases hz
end
end DL

namespace DL
open PySem PySem.Spec PyProof.Rows L2

/-! ### in -/
def inStr (x y : List Nat) : Bool := match x with
  | [c] => decide (c ∈ y)
  | _ => !(Builtin.Str.occurrences (toS y) (toS x) 0 y.length 1).isEmpty
theorem inStr_eq (x y : List Nat) : (!(Builtin.Str.occurrences (toS y) (toS x) 0 (toS y).length 1).isEmpty) = inStr x y := by
  rw [toS_len]
  unfold inStr
  split
  · rename_i c
    have h := PySem.StrLaws.found_one (toS y) c
    rw [toS_len, toS_list] at h
    exact h
  · rfl
def D.flat : D → Bool
  | .non => true
  | .bl _ => true
  | .int _ => true
  | .str _ => true
  | _ => false
def inD (d : D) (l : List D) : Bool := l.any fun e => D.eqv e d
def gIn : D → D → Option D
  | .str x, .str y => some (.bl (inStr x y))
  | d, .tup l => if (d.flat && l.all D.flat) = true then some (.bl (inD d l)) else none
  | d, .lst l => if (d.flat && l.all D.flat) = true then some (.bl (inD d l)) else none
  | _, _ => none
@[simp] def gNot (g : D → D → Option D) (d e : D) : Option D := match g d e with
  | some (.bl b) => some (.bl (!b))
  | _ => none
theorem flat_V {K : PySem.W.Frag} {O : Addr → Prop} {H : Hp} {d : D} {v : V} (r : Rep K O H v d) (h : d.flat = true) : flatV v = true := by
  cases d <;> first | (cases r; rfl) | (exact Bool.noConfusion h)
theorem flats_V {K : PySem.W.Frag} {O : Addr → Prop} {H : Hp} : ∀ {ds : List D} {vs : List V}, Reps K O H vs ds → ds.all D.flat = true → vs.all flatV = true
  | [], _, r, _ => by cases r; rfl
  | d :: ds, _, r, h => by
    cases r with | cons a q =>
    rw [List.all_cons, Bool.and_eq_true_iff] at h
    rw [List.all_cons, flat_V a h.1, flats_V q h.2]; rfl
theorem eqV_D {K : PySem.W.Frag} {O : Addr → Prop} {H : Hp} {d e : D} {v w : V} (r : Rep K O H v d) (q : Rep K O H w e) (h : d.flat = true) (h2 : e.flat = true) : eqV v w = D.eqv d e := by
  cases d <;> first | (exact Bool.noConfusion h) | (cases e <;> first | (exact Bool.noConfusion h2) | (cases r; cases q; first | rfl | (simp only [eqV, D.eqv]; done) | exact toS_beq _ _))
theorem inV_D {K : PySem.W.Frag} {O : Addr → Prop} {H : Hp} {d : D} {v : V} (r : Rep K O H v d) (h : d.flat = true) : ∀ {ds : List D} {vs : List V}, Reps K O H vs ds → ds.all D.flat = true → inV v vs = inD d ds
  | [], _, q, _ => by cases q; rfl
  | e :: ds, _, q, h2 => by
    cases q with | cons a q =>
    rw [List.all_cons, Bool.and_eq_true_iff] at h2
    have ih := inV_D r h q h2.2
    show (eqV _ v || inV v _) = (D.eqv e d || inD d ds)
    rw [eqV_D a r h2.1 h, ih]
section
variable {X : Cx}
def rInA (K : PySem.W.Frag) : R2 := fun x y H Q => (fun x y H Q => ∃ i j, x = V.str i ∧ y = V.str j ∧ Q (.bl (!(Builtin.Str.occurrences j i 0 j.length 1).isEmpty)) H) x y H Q ∨ rIn K false x y H Q
def rNotInA (K : PySem.W.Frag) : R2 := fun x y H Q => (fun x y H Q => ∃ i j, x = V.str i ∧ y = V.str j ∧ Q (.bl (!(!(Builtin.Str.occurrences j i 0 j.length 1).isEmpty))) H) x y H Q ∨ rIn K true x y H Q
theorem op_inA : OpR X (compareOp .In) (rInA X.K) := op_in_str.or op_in_seq
theorem op_notInA : OpR X (compareOp .NotIn) (rNotInA X.K) := op_notin_str.or op_notIn_seq
theorem gIn_some {d e z : D} (h : gIn d e = some z) : (∃ x y, d = .str x ∧ e = .str y ∧ z = .bl (inStr x y)) ∨ ∃ l, (e = .tup l ∨ e = .lst l) ∧ d.flat = true ∧ l.all D.flat = true ∧ z = .bl (inD d l) := by
  unfold gIn at h
  split at h
  · cases h; exact .inl ⟨_, _, rfl, rfl, rfl⟩
  · split at h
    · rename_i c
      cases h
      rw [Bool.and_eq_true_iff] at c
      exact .inr ⟨_, .inl rfl, c.1, c.2, rfl⟩
    · cases h
  · split at h
    · rename_i c
      cases h
      rw [Bool.and_eq_true_iff] at c
      exact .inr ⟨_, .inr rfl, c.1, c.2, rfl⟩
    · cases h
  · cases h
theorem in_seqD {K : PySem.W.Frag} {O : Addr → Prop} {H : Hp} {x y : V} {d e : D} {l : List D} (rx : Rep K O H x d) (ry : Rep K O H y e) (he : e = .tup l ∨ e = .lst l) (h1 : d.flat = true) (h2 : l.all D.flat = true) :
    ∃ p xs, y = .ref p ∧ (SqL K H p xs ∨ SqT K H p xs) ∧ flatV x = true ∧ xs.all flatV = true ∧ inV x xs = inD d l := by
  rcases he with rfl | rfl
  · obtain ⟨p, xs, rfl, t, r⟩ := ry.tupV
    exact ⟨p, xs, rfl, .inr t.sq, flat_V rx h1, flats_V r h2, inV_D rx h1 r h2⟩
  · obtain ⟨p, xs, rfl, t, r⟩ := ry.lstV
    exact ⟨p, xs, rfl, .inl t.sq, flat_V rx h1, flats_V r h2, inV_D rx h1 r h2⟩
theorem inA_ok {K : PySem.W.Frag} : OpD K (rInA K) gIn := fun O H x y d e z Q _ rx ry hz q => by
  rcases gIn_some hz with ⟨a, b, rfl, rfl, rfl⟩ | ⟨l, he, h1, h2, rfl⟩
  · refine .inl ⟨_, _, rx.strV, ry.strV, ?_⟩
    rw [inStr_eq]
    exact q _ H (fun _ _ h => h) (.bl _)
  · obtain ⟨p, xs, e1, e2, e3, e4, e5⟩ := in_seqD rx ry he h1 h2
    refine .inr ⟨p, xs, e1, e2, e3, e4, ?_⟩
    show Q (.bl (inV x xs)) H
    rw [e5]
    exact q _ H (fun _ _ h => h) (.bl _)
theorem notInA_ok {K : PySem.W.Frag} : OpD K (rNotInA K) (gNot gIn) := fun O H x y d e z Q _ rx ry hz q => by
  unfold gNot at hz
  split at hz
  · rename_i bb hz1
    cases hz
    rcases gIn_some hz1 with ⟨a, b, rfl, rfl, e0⟩ | ⟨l, he, h1, h2, e0⟩
    · cases e0
      refine .inl ⟨_, _, rx.strV, ry.strV, ?_⟩
      rw [inStr_eq]
      exact q _ H (fun _ _ h => h) (.bl _)
    · cases e0
      obtain ⟨p, xs, e1, e2, e3, e4, e5⟩ := in_seqD rx ry he h1 h2
      refine .inr ⟨p, xs, e1, e2, e3, e4, ?_⟩
      show Q (.bl (!inV x xs)) H
      rw [e5]
      exact q _ H (fun _ _ h => h) (.bl _)
  · cases hz

/-! ### is None -/
@[simp] def gIs : D → D → Option D
  | .non, .non => some (.bl true)
  | _, .non => some (.bl false)
  | _, _ => none
theorem rep_non {K : PySem.W.Frag} {O : Addr → Prop} {H : Hp} {x : V} {d : D} (r : Rep K O H x d) : decide (x = .non) = (match d with | .non => true | _ => false) := by
  cases d <;> cases r <;> rfl
theorem isN_ok {K : PySem.W.Frag} : OpD K (fun x y H Q => y = .non ∧ Q (.bl (decide (x = .non))) H) gIs := fun O H x y d e z Q _ rx ry hz q => by
  cases e <;> first | (cases d <;> cases hz; done) | skip
  refine ⟨ry.nonV, ?_⟩
  rw [rep_non rx]
  cases d <;> cases hz <;> exact q _ H (fun _ _ h => h) (.bl _)
theorem notN_ok {K : PySem.W.Frag} : OpD K (fun x y H Q => y = .non ∧ Q (.bl (!decide (x = .non))) H) (gNot gIs) := fun O H x y d e z Q _ rx ry hz q => by
  cases e <;> first | (cases d <;> cases hz; done) | skip
  refine ⟨ry.nonV, ?_⟩
  rw [rep_non rx]
  cases d <;> cases hz <;> exact q _ H (fun _ _ h => h) (.bl _)

/-! ### tests -/
@[simp] def D.tru : D → Bool
  | .non => false
  | .bl b => b
  | .int i => i != 0
  | .str x => x.length != 0
  | .tup l => !l.isEmpty
  | .lst l => !l.isEmpty
  | .scr l => !l.isEmpty
theorem rep_tru {K : PySem.W.Frag} {O : Addr → Prop} {H : Hp} {x : V} {d : D} (r : Rep K O H x d) : TruV K x H d.tru := by
  have em : ∀ {xs : List V} {ds : List D}, Reps K O H xs ds → (!ds.isEmpty) = !xs.isEmpty := fun r => by cases r <;> rfl
  cases d with
  | non => cases r; rfl
  | bl b => cases r; rfl
  | int i => cases r; rfl
  | str x =>
    have o := r.strOk
    rw [r.strV]
    refine ⟨by rw [toS_len]; exact okS_len o, ?_⟩
    show (x.length != 0) = (((toS x).length : Int) != 0)
    rw [toS_len]
    rw [Bool.eq_iff_iff, bne_iff_ne, bne_iff_ne]; omega
  | tup l =>
    obtain ⟨p, xs, rfl, t, r⟩ := r.tupV
    exact .inr (.inl ⟨xs, t.sq, em r⟩)
  | lst l =>
    obtain ⟨p, xs, rfl, t, r⟩ := r.lstV
    exact .inl ⟨xs, t.sq, em r⟩
  | scr l =>
    obtain ⟨p, rfl, t⟩ := r.scrV
    exact .inl ⟨_, t.sq, by cases l <;> rfl⟩
section
variable {C : Ck} {W : L2.WX} {pos : Pos}
@[simp] def dTr (f : En → Res D) : En → Res Bool := fun ρ => (f ρ).bind fun d ρ' => .ok d.tru ρ'
/-- a value's truth -/
theorem t_val {e : Expr} {f : En → Res D} (h : PE X e (tD X.K C W f)) (he : ∀ whole, isTrue e X.env whole = (do let v ← whole; standAt e.pos; holding [v] (truthy v)) := by intro _; rfl) : PT X e (tT X.K C W (dTr f)) :=
  (pt_truth h he).imp fun σ H Q ⟨c, ρ, er, q⟩ => tD_bind er q fun d ρ1 v H1 s r q => ⟨_, rep_tru r, q H1 s⟩
@[simp] def dBo (f : En → Res D) : En → Res Bool := fun ρ => (f ρ).bind fun d ρ' => match d with
  | .bl b => .ok b ρ'
  | _ => .no
theorem bo_imp {K : PySem.W.Frag} {f : En → Res D} : ∀ σ H Q, tT K C W (dBo f) σ H Q → tTest (tD K C W f) σ H Q := fun σ H Q ⟨c, ρ, er, q⟩ => tD_bind er q fun d ρ1 v H1 s r q => by
  cases d with
  | bl b => exact ⟨b, r.blV, q H1 s⟩
  | _ => exact q.elim
/-- a comparison as a test -/
theorem t_cmp {op : CmpOp} {a b : Expr} {r : R2} {g : D → D → Option D} {f1 f2 : En → Res D} (ho : OpR X (compareOp op) r) (o : OpD X.K r g) (ha : PE X a (tD X.K C W f1)) (hb : PE X b (tD X.K C W f2)) (hm : behindInMarks op b = false) :
    PT X (.Compare a [op] [b] pos) (tT X.K C W (dBo (dBin g f1 f2))) :=
  (pt_cmpR ho ha hb hm).imp fun σ H Q h => by
    obtain ⟨c, ρ, er, q⟩ := bo_imp (K := X.K) (C := C) (W := W) σ H Q h
    exact bin_imp o σ H _ ⟨c, ρ, er, q⟩
@[simp] def dNot (f : En → Res Bool) : En → Res Bool := fun ρ => (f ρ).bind fun b ρ' => .ok (!b) ρ'
theorem t_not {a : Expr} {f : En → Res Bool} (h : PT X a (tT X.K C W f)) : PT X (.UnaryOp .Not a pos) (tT X.K C W (dNot f)) :=
  (pt_not h).imp fun σ H Q ⟨c, ρ, er, q⟩ => tT_bind er q fun b ρ1 H1 s q => q H1 s
@[simp] def dAnd (f g : En → Res Bool) : En → Res Bool := fun ρ => (f ρ).bind fun b ρ' => if b = true then g ρ' else .ok false ρ'
@[simp] def dOr (f g : En → Res Bool) : En → Res Bool := fun ρ => (f ρ).bind fun b ρ' => if b = true then .ok true ρ' else g ρ'
theorem and_imp {K : PySem.W.Frag} {f g : En → Res Bool} : ∀ σ H Q, tT K C W (dAnd f g) σ H Q → tAnd (tT K C W f) (tT K C W g) σ H Q := fun σ H Q ⟨c, ρ, er, q⟩ => tT_bind er q fun b ρ1 H1 s q => by
  cases b with
  | true =>
    rw [if_pos rfl] at q ⊢
    exact ⟨c, ρ1, s.er, wpR_mono q (fun b ρ2 h H2 s2 => h H2 (s.trans s2)) fun _ _ _ x => x.after s⟩
  | false =>
    rw [if_neg (by decide)] at q ⊢
    exact q H1 s
theorem or_imp {K : PySem.W.Frag} {f g : En → Res Bool} : ∀ σ H Q, tT K C W (dOr f g) σ H Q → tOr (tT K C W f) (tT K C W g) σ H Q := fun σ H Q ⟨c, ρ, er, q⟩ => tT_bind er q fun b ρ1 H1 s q => by
  cases b with
  | false =>
    rw [if_neg (by decide)] at q ⊢
    exact ⟨c, ρ1, s.er, wpR_mono q (fun b ρ2 h H2 s2 => h H2 (s.trans s2)) fun _ _ _ x => x.after s⟩
  | true =>
    rw [if_pos rfl] at q ⊢
    exact q H1 s
theorem _root_.L2.PW.imp {e : Expr} {t t' : TT} (h : PW X e t) (i : ∀ σ H Q, t' σ H Q → t σ H Q) : PW X e t' := ⟨fun wh pins s σ H Q I q => h.run wh pins s σ H Q I (i σ H Q q)⟩
theorem w_and1 {a : Expr} {f : En → Res Bool} (h : PT X a (tT X.K C W f)) : PW X (.BoolOp .And [a] pos) (tT X.K C W f) := pw_and1 h
theorem w_or1 {a : Expr} {f : En → Res Bool} (h : PT X a (tT X.K C W f)) : PW X (.BoolOp .Or [a] pos) (tT X.K C W f) := pw_or1 h
theorem w_and {a b : Expr} {rest : List Expr} {f g : En → Res Bool} (h : PT X a (tT X.K C W f)) (h2 : PW X (.BoolOp .And (b :: rest) pos) (tT X.K C W g)) : PW X (.BoolOp .And (a :: b :: rest) pos) (tT X.K C W (dAnd f g)) := (pw_and h h2).imp and_imp
theorem w_or {a b : Expr} {rest : List Expr} {f g : En → Res Bool} (h : PT X a (tT X.K C W f)) (h2 : PW X (.BoolOp .Or (b :: rest) pos) (tT X.K C W g)) : PW X (.BoolOp .Or (a :: b :: rest) pos) (tT X.K C W (dOr f g)) := (pw_or h h2).imp or_imp
theorem t_w {e : Expr} {f : En → Res Bool} (h : PW X e (tT X.K C W f)) : PT X e (tT X.K C W f) := h.pt

/-! ### the same as values: bools alone -/
@[simp] def dAndV (f g : En → Res D) : En → Res D := fun ρ => (f ρ).bind fun d ρ' => match d with
  | .bl true => g ρ'
  | .bl false => .ok (.bl false) ρ'
  | _ => .no
@[simp] def dOrV (f g : En → Res D) : En → Res D := fun ρ => (f ρ).bind fun d ρ' => match d with
  | .bl false => g ρ'
  | .bl true => .ok (.bl true) ρ'
  | _ => .no
@[simp] def dNotV (f : En → Res D) : En → Res D := fun ρ => (f ρ).bind fun d ρ' => match d with
  | .bl b => .ok (.bl (!b)) ρ'
  | _ => .no
theorem d_one {op : BoolOp} {a : Expr} {f : En → Res D} (h : PE X a (tD X.K C W f)) : PE X (.BoolOp op [a] pos) (tD X.K C W f) := pe_one h
theorem d_and {a b : Expr} {rest : List Expr} {f g : En → Res D} (h : PE X a (tD X.K C W f)) (h2 : PE X (.BoolOp .And (b :: rest) pos) (tD X.K C W g)) : PE X (.BoolOp .And (a :: b :: rest) pos) (tD X.K C W (dAndV f g)) :=
  (pe_and h h2).imp fun σ H Q ⟨c, ρ, er, q⟩ => tD_bind er q fun d ρ1 v H1 s r q => by
    cases d with
    | bl b =>
      refine ⟨b, r.blV, ?_⟩
      cases b with
      | true =>
        rw [if_pos rfl]
        exact ⟨c, ρ1, s.er, wpR_mono q (fun b ρ2 h v H2 s2 r2 => h v H2 (s.trans s2) r2) fun _ _ _ x => x.after s⟩
      | false =>
        rw [if_neg (by decide)]
        exact q _ H1 s (.bl _)
    | _ => exact q.elim
theorem d_or {a b : Expr} {rest : List Expr} {f g : En → Res D} (h : PE X a (tD X.K C W f)) (h2 : PE X (.BoolOp .Or (b :: rest) pos) (tD X.K C W g)) : PE X (.BoolOp .Or (a :: b :: rest) pos) (tD X.K C W (dOrV f g)) :=
  (pe_or h h2).imp fun σ H Q ⟨c, ρ, er, q⟩ => tD_bind er q fun d ρ1 v H1 s r q => by
    cases d with
    | bl b =>
      refine ⟨b, r.blV, ?_⟩
      cases b with
      | false =>
        rw [if_neg (by decide)]
        exact ⟨c, ρ1, s.er, wpR_mono q (fun b ρ2 h v H2 s2 r2 => h v H2 (s.trans s2) r2) fun _ _ _ x => x.after s⟩
      | true =>
        rw [if_pos rfl]
        exact q _ H1 s (.bl _)
    | _ => exact q.elim
theorem d_not {a : Expr} {f : En → Res D} (h : PE X a (tD X.K C W f)) : PE X (.UnaryOp .Not a pos) (tD X.K C W (dNotV f)) :=
  (pe_not h).imp fun σ H Q ⟨c, ρ, er, q⟩ => tD_bind er q fun d ρ1 v H1 s r q => by
    cases d with
    | bl b => exact ⟨b, r.blV, q _ H1 s (.bl _)⟩
    | _ => exact q.elim
@[simp] def dIf {α : Type} (t : En → Res Bool) (f g : En → Res α) : En → Res α := fun ρ => (t ρ).bind fun b ρ' => if b = true then f ρ' else g ρ'
theorem d_if {t a b : Expr} {ft : En → Res Bool} {f g : En → Res D} (ht : PT X t (tT X.K C W ft)) (ha : PE X a (tD X.K C W f)) (hb : PE X b (tD X.K C W g)) : PE X (.IfExp t a b pos) (tD X.K C W (dIf ft f g)) :=
  (pe_ifExp ht ha hb).imp fun σ H Q ⟨c, ρ, er, q⟩ => tT_bind er q fun b ρ1 H1 s q => by
    cases b with
    | true =>
      rw [if_pos rfl] at q ⊢
      exact ⟨c, ρ1, s.er, wpR_mono q (fun b ρ2 h v H2 s2 r2 => h v H2 (s.trans s2) r2) fun _ _ _ x => x.after s⟩
    | false =>
      rw [if_neg (by decide)] at q ⊢
      exact ⟨c, ρ1, s.er, wpR_mono q (fun b ρ2 h v H2 s2 r2 => h v H2 (s.trans s2) r2) fun _ _ _ x => x.after s⟩
@[simp] def dNeg (f : En → Res D) : En → Res D := fun ρ => (f ρ).bind fun d ρ' => match d with
  | .int i => .ok (.int (-i)) ρ'
  | _ => .no
theorem d_neg {a : Expr} {f : En → Res D} (h : PE X a (tD X.K C W f)) : PE X (.UnaryOp .USub a pos) (tD X.K C W (dNeg f)) :=
  (pe_un un_neg h).imp fun σ H Q ⟨c, ρ, er, q⟩ => tD_bind er q fun d ρ1 v H1 s r q => by
    cases d with
    | int i => exact ⟨i, r.intV, q _ H1 s (.int _)⟩
    | _ => exact q.elim
/-- a op b op' c -/
@[simp] def dCh (g g' : D → D → Option D) (f1 f2 f3 : En → Res D) : En → Res D := fun ρ => (f1 ρ).bind fun d ρ1 => (f2 ρ1).bind fun e ρ2 => match g d e with
  | some (.bl true) => (f3 ρ2).bind fun k ρ3 => optR (g' e k) fun z => .ok z ρ3
  | some (.bl false) => .ok (.bl false) ρ2
  | _ => .no
theorem ch_imp {K : PySem.W.Frag} {r r' : R2} {g g' : D → D → Option D} {f1 f2 f3 : En → Res D} (o : OpD K r g) (o' : OpD K r' g') : ∀ σ H Q, tD K C W (dCh g g' f1 f2 f3) σ H Q → tChain r r' (tD K C W f1) (tD K C W f2) (tD K C W f3) σ H Q := fun σ H Q ⟨c, ρ, er, q⟩ => by
  refine tD_bind er q fun d ρ1 v H1 s1 r1 q1 => ?_
  refine tD_bind s1.er (wpR_after s1 q1 fun _ _ z => z) fun e ρ2 w H2 s2 r2 q2 => ?_
  cases hg : g d e with
  | none => rw [hg] at q2; exact q2.elim
  | some z =>
    rw [hg] at q2
    cases z with
    | bl b =>
      refine o _ H2 v w d e _ _ (fun a h => s2.er.there h) (s2.rep r1) r2 hg fun u H3 g3 r3 => ⟨b, r3.blV, ?_⟩
      have s3 := s2.er.grown g3
      cases b with
      | false =>
        rw [if_neg (by decide)]
        exact q2 _ H3 ((s1.trans s2).trans s3) (.bl _)
      | true =>
        rw [if_pos rfl]
        have q2 : wpR ((f3 ρ2).bind fun k ρ3 => optR (g' e k) fun z => .ok z ρ3) _ _ := q2
        refine tD_bind s3.er (wpR_after s3 (wpR_after s2 q2 fun _ _ z => z) fun _ _ z => z) fun k ρ4 u4 H4 s4 r4 q4 => ?_
        obtain ⟨z, hz, q5⟩ := wpR_opt q4
        exact o' _ H4 w u4 e k z Q (fun a h => s4.er.there h) ((s3.trans s4).rep r2) r4 hz fun u5 H5 g5 r5 => q5 u5 H5 ((((s1.trans s2).trans s3).trans s4).trans (s4.er.grown g5)) r5
    | _ => exact q2.elim
theorem d_ch {op op' : CmpOp} {a b c : Expr} {r r' : R2} {g g' : D → D → Option D} {f1 f2 f3 : En → Res D} (ho : OpR X (compareOp op) r) (o : OpD X.K r g) (ho' : OpR X (compareOp op') r') (o' : OpD X.K r' g') (ha : PE X a (tD X.K C W f1)) (hb : PE X b (tD X.K C W f2)) (hc : PE X c (tD X.K C W f3))
    (hm : lastMarks [op, op'] [b, c] = false := by with_unfolding_all rfl) : PE X (.Compare a [op, op'] [b, c] pos) (tD X.K C W (dCh g g' f1 f2 f3)) := (pe_chain ho ho' ha hb hc hm).imp (ch_imp o o')
theorem t_ch {op op' : CmpOp} {a b c : Expr} {r r' : R2} {g g' : D → D → Option D} {f1 f2 f3 : En → Res D} (ho : OpR X (compareOp op) r) (o : OpD X.K r g) (ho' : OpR X (compareOp op') r') (o' : OpD X.K r' g') (ha : PE X a (tD X.K C W f1)) (hb : PE X b (tD X.K C W f2)) (hc : PE X c (tD X.K C W f3))
    (hm : lastMarks [op, op'] [b, c] = false := by with_unfolding_all rfl) : PT X (.Compare a [op, op'] [b, c] pos) (tT X.K C W (dBo (dCh g g' f1 f2 f3))) :=
  (pt_chain ho ho' ha hb hc hm).imp fun σ H Q h => by
    obtain ⟨c, ρ, er, q⟩ := bo_imp (K := X.K) (C := C) (W := W) σ H Q h
    exact ch_imp o o' σ H _ ⟨c, ρ, er, q⟩
end
end
end DL

namespace DL
open PySem PySem.Spec PyProof.Rows L2

/-! ### arguments, displays -/
section
variable {X : Cx} {C : Ck} {W : L2.WX} {pos : Pos}
@[simp] def dNil : En → Res (List D) := fun ρ => .ok [] ρ
@[simp] def dCons (f : En → Res D) (g : En → Res (List D)) : En → Res (List D) := fun ρ => (f ρ).bind fun d ρ1 => (g ρ1).bind fun ds ρ2 => .ok (d :: ds) ρ2
theorem a_nil : PA X [] (tA X.K C W dNil) := pa_nil.imp fun σ H Q ⟨c, ρ, er, q⟩ => q [] H er.step .nil
theorem a_cons {e : Expr} {es : List Expr} {f : En → Res D} {g : En → Res (List D)} (h : PE X e (tD X.K C W f)) (h2 : PA X es (tA X.K C W g)) (hs : starEach (e :: es) X.env = (false, eval e X.env) :: starEach es X.env := by rfl) :
    PA X (e :: es) (tA X.K C W (dCons f g)) := (pa_cons h h2 hs).imp fun σ H Q ⟨c, ρ, er, q⟩ => by
  refine tD_bind er q fun d ρ1 v H1 s1 r1 q1 => ?_
  refine tA_bind s1.er (wpR_after s1 q1 fun _ _ z => z) fun ds ρ2 vs H2 s2 r2 q2 => ?_
  exact q2 (v :: vs) H2 (s1.trans s2) (.cons (s2.rep r1) r2)
@[simp] def dTup (f : En → Res (List D)) : En → Res D := fun ρ => (f ρ).bind fun ds ρ' => if ds.length ≤ LIM then .ok (.tup ds) ρ' else .no
@[simp] def dLst (f : En → Res (List D)) : En → Res (List D) := fun ρ => (f ρ).bind fun ds ρ' => if ds.length ≤ LIM then .ok ds ρ' else .no
theorem d_tup {es : List Expr} {x1 : Nat} {f : En → Res (List D)} (h : PA X es (tA X.K C W f)) : PE X (.Tuple es x1 pos) (tD X.K C W (dTup f)) := (pe_tup h).imp fun σ H Q ⟨c, ρ, er, q⟩ => by
  refine tA_bind er q fun ds ρ1 vs H1 s r q => ?_
  obtain ⟨hl, q⟩ := wpR_ite q
  refine ⟨by rw [r.length, lim_eq]; exact hl, fun p hp => ?_⟩
  exact q _ _ (s.trans (s.er.grown (grow_upd hp))) (new_tup (fun a h => s.er.there h) hp r)
theorem f_lst {es : List Expr} {f : En → Res (List D)} (h : PA X es (tA X.K C W f)) : PE X (.List es pos) (tF X.K C W (dLst f)) := (pe_lst h).imp fun σ H Q ⟨c, ρ, er, q⟩ => by
  refine tA_bind er q fun ds ρ1 vs H1 s r q => ?_
  obtain ⟨hl, q⟩ := wpR_ite q
  refine ⟨by rw [r.length, lim_eq]; exact hl, fun p hp => ?_⟩
  refine q p vs _ (s.trans (s.er.grown (grow_upd hp))) (s.good.free hp) upd_same (s.er.more hp) ?_
  exact (r.m fun b z hb => (more_le z).elim id fun e => absurd hp (by rw [← e]; exact hb)).g (Good.upd hp)
theorem fresh_reps {K : PySem.W.Frag} {O : Addr → Prop} {H : Hp} {p : Addr} {o : HO} {vs : List V} {ds : List D} (hp : H p = none) (r : Reps K O H vs ds) : Reps K (fun b => O b ∨ b = p) (upd H p o) vs ds :=
  (r.m fun b z hb => z.elim id fun e => absurd hp (e ▸ hb)).g (Good.upd hp)

/-! ### calls of built-ins, methods, by values -/
def CallD (K : PySem.W.Frag) (r : List V → Hp → VK → Prop) (g : List D → Option D) : Prop := ∀ (O : Addr → Prop) (H : Hp) (xs : List V) (ds : List D) (z : D) (Q : VK), (∀ a, O a → H a ≠ none) → Reps K O H xs ds → g ds = some z →
  (∀ v H', (∀ b o, H b = some o → H' b = some o) → Rep K O H' v z → Q v H') → r xs H Q
def CallF (K : PySem.W.Frag) (r : List V → Hp → VK → Prop) (g : List D → Option (List D)) : Prop := ∀ (O : Addr → Prop) (H : Hp) (xs : List V) (ds : List D) (zs : List D) (Q : VK), (∀ a, O a → H a ≠ none) → Reps K O H xs ds → g ds = some zs →
  (∀ p vs H', (∀ b o, H b = some o → H' b = some o) → H p = none → H' p = some (.lst vs) → Reps K (fun b => O b ∨ b = p) H' vs zs → Q (.ref p) H') → r xs H Q
@[simp] def dCall {α : Type} (g : List D → Option α) (f : En → Res (List D)) : En → Res α := fun ρ => (f ρ).bind fun ds ρ' => optR (g ds) fun z => .ok z ρ'
theorem call_imp {K : PySem.W.Frag} {r : List V → Hp → VK → Prop} {g : List D → Option D} {f : En → Res (List D)} (o : CallD K r g) : ∀ σ H Q, tD K C W (dCall g f) σ H Q → tCB r (tA K C W f) σ H Q := fun σ H Q ⟨c, ρ, er, q⟩ => by
  refine tA_bind er q fun ds ρ1 vs H1 s r1 q => ?_
  obtain ⟨z, hz, q⟩ := wpR_opt q
  exact o _ H1 vs ds z Q (fun a h => s.er.there h) r1 hz fun v H2 g2 r2 => q v H2 (s.trans (s.er.grown g2)) r2
theorem callF_imp {K : PySem.W.Frag} {r : List V → Hp → VK → Prop} {g : List D → Option (List D)} {f : En → Res (List D)} (o : CallF K r g) : ∀ σ H Q, tF K C W (dCall g f) σ H Q → tCB r (tA K C W f) σ H Q := fun σ H Q ⟨c, ρ, er, q⟩ => by
  refine tA_bind er q fun ds ρ1 vs H1 s r1 q => ?_
  obtain ⟨z, hz, q⟩ := wpR_opt q
  exact o _ H1 vs ds z Q (fun a h => s.er.there h) r1 hz fun p vs H2 g2 h1 h2 r2 => q p vs H2 (s.trans (s.er.grown g2)) (s.good.free h1) h2 (s.er.moreG h1 g2 (by rw [h2]; exact fun y => by cases y)) (r2.m fun _ z _ => more_le z)
theorem d_callB {x : Str} {p : Pos} {id : String} {e : Expr} {es : List Expr} {r : List V → Hp → VK → Prop} {g : List D → Option D} {f : En → Res (List D)} (hc : CallR X (.builtin id) r) (o : CallD X.K r g) (hm : X.mg x = none) (hv : bootBuiltins x = some (.builtin id)) (ha : PA X (e :: es) (tA X.K C W f)) (hg : Gl X x := by rfl)
    (hn : x ≠ "__name__" := by decide) (hdb : (x == ("__debug__" : Str)) = false := by decide) (he : starEach (e :: es) X.env = (false, eval e X.env) :: starEach es X.env := by rfl) (hpl : (backTo pos (starEach es X.env)).any (·.1) = false := by rfl) :
    PE X (.Call (.Name x p) (e :: es) [] pos) (tD X.K C W (dCall g f)) := (pe_callB hc hg hm hv ha hn hdb he hpl).imp (call_imp o)
theorem f_callB {x : Str} {p : Pos} {id : String} {e : Expr} {es : List Expr} {r : List V → Hp → VK → Prop} {g : List D → Option (List D)} {f : En → Res (List D)} (hc : CallR X (.builtin id) r) (o : CallF X.K r g) (hm : X.mg x = none) (hv : bootBuiltins x = some (.builtin id)) (ha : PA X (e :: es) (tA X.K C W f)) (hg : Gl X x := by rfl)
    (hn : x ≠ "__name__" := by decide) (hdb : (x == ("__debug__" : Str)) = false := by decide) (he : starEach (e :: es) X.env = (false, eval e X.env) :: starEach es X.env := by rfl) (hpl : (backTo pos (starEach es X.env)).any (·.1) = false := by rfl) :
    PE X (.Call (.Name x p) (e :: es) [] pos) (tF X.K C W (dCall g f)) := (pe_callB hc hg hm hv ha hn hdb he hpl).imp (callF_imp o)
theorem d_callT {x : Str} {p : Pos} {T : String} {e : Expr} {es : List Expr} {r : List V → Hp → VK → Prop} {g : List D → Option D} {f : En → Res (List D)} (hc : CallR X (.type T) r) (o : CallD X.K r g) (hm : X.mg x = none) (hv : bootBuiltins x = some (.type T)) (ha : PA X (e :: es) (tA X.K C W f)) (hg : Gl X x := by rfl)
    (hn : x ≠ "__name__" := by decide) (hdb : (x == ("__debug__" : Str)) = false := by decide) (he : starEach (e :: es) X.env = (false, eval e X.env) :: starEach es X.env := by rfl) (hpl : (backTo pos (starEach es X.env)).any (·.1) = false := by rfl) :
    PE X (.Call (.Name x p) (e :: es) [] pos) (tD X.K C W (dCall g f)) := (pe_callTy hc hg hm hv ha hn hdb he hpl).imp (call_imp o)
theorem f_callT {x : Str} {p : Pos} {T : String} {e : Expr} {es : List Expr} {r : List V → Hp → VK → Prop} {g : List D → Option (List D)} {f : En → Res (List D)} (hc : CallR X (.type T) r) (o : CallF X.K r g) (hm : X.mg x = none) (hv : bootBuiltins x = some (.type T)) (ha : PA X (e :: es) (tA X.K C W f)) (hg : Gl X x := by rfl)
    (hn : x ≠ "__name__" := by decide) (hdb : (x == ("__debug__" : Str)) = false := by decide) (he : starEach (e :: es) X.env = (false, eval e X.env) :: starEach es X.env := by rfl) (hpl : (backTo pos (starEach es X.env)).any (·.1) = false := by rfl) :
    PE X (.Call (.Name x p) (e :: es) [] pos) (tF X.K C W (dCall g f)) := (pe_callTy hc hg hm hv ha hn hdb he hpl).imp (callF_imp o)
end
/-! #### len, int, str, sum .. -/
section
variable {K : PySem.W.Frag}
@[simp] def gLen : List D → Option D
  | [.str x] => some (.int x.length)
  | [.tup l] => some (.int l.length)
  | [.lst l] => some (.int l.length)
  | [.scr l] => some (.int l.length)
  | _ => none
theorem reps1 {O : Addr → Prop} {H : Hp} {xs : List V} {d : D} (r : Reps K O H xs [d]) : ∃ v, xs = [v] ∧ Rep K O H v d := by
  cases r with | cons a q => cases q; exact ⟨_, rfl, a⟩
theorem reps2 {O : Addr → Prop} {H : Hp} {xs : List V} {d e : D} (r : Reps K O H xs [d, e]) : ∃ v w, xs = [v, w] ∧ Rep K O H v d ∧ Rep K O H w e := by
  cases r with | cons a q => cases q with | cons b q => cases q; exact ⟨_, _, rfl, a, b⟩
theorem len_ok : CallD K (fun xs H Q => ∃ x n, xs = [x] ∧ LenV K x H n ∧ Q (.int n) H) gLen := fun O H xs ds z Q _ r hz q => by
  unfold gLen at hz
  split at hz
  · cases hz
    replace r := reps1 r; obtain ⟨v, rfl, r⟩ := r
    have o := r.strOk
    rw [r.strV]
    exact ⟨_, _, rfl, ⟨by rw [toS_len]; exact okS_len o, rfl⟩, by rw [toS_len]; exact q _ H (fun _ _ h => h) (.int _)⟩
  · cases hz
    replace r := reps1 r; obtain ⟨v, rfl, r⟩ := r
    obtain ⟨p, xs, rfl, t, r⟩ := r.tupV
    exact ⟨_, _, rfl, .inr ⟨xs, t.sq, rfl⟩, by rw [r.length]; exact q _ H (fun _ _ h => h) (.int _)⟩
  · cases hz
    replace r := reps1 r; obtain ⟨v, rfl, r⟩ := r
    obtain ⟨p, xs, rfl, t, r⟩ := r.lstV
    exact ⟨_, _, rfl, .inl ⟨xs, t.sq, rfl⟩, by rw [r.length]; exact q _ H (fun _ _ h => h) (.int _)⟩
  · cases hz
    replace r := reps1 r; obtain ⟨v, rfl, r⟩ := r
    obtain ⟨p, rfl, t⟩ := r.scrV
    exact ⟨_, _, rfl, .inl ⟨_, t.sq, rfl⟩, by rw [List.length_map]; exact q _ H (fun _ _ h => h) (.int _)⟩
  · cases hz
/-- int(n), int(text) -/
def intL (x : List Nat) : Option Int := PySem.intText? (toS x)
@[simp] def gInt : List D → Option D
  | [.int i] => some (.int i)
  | [.bl b] => some (.int (if b then 1 else 0))
  | [.str x] => if x.length ≤ 640 then (intL x).map D.int else none
  | _ => none
def rIntA : List V → Hp → VK → Prop := fun xs H Q => ((∃ i, xs = [.int i] ∧ Q (.int i) H) ∨ ∃ k, xs = [.bl k] ∧ Q (.int (if k then 1 else 0)) H) ∨ (∃ a n, xs = [.str a] ∧ PySem.intText? a = some n ∧ a.length ≤ 640 ∧ Q (.int n) H)
theorem call_intA {X : Cx} : CallR X (.type "int") rIntA := call_int1.or call_int_str
theorem int_okD : CallD K rIntA gInt := fun O H xs ds z Q _ r hz q => by
  unfold gInt at hz
  split at hz
  · cases hz
    replace r := reps1 r; obtain ⟨v, rfl, r⟩ := r
    exact .inl (.inl ⟨_, by rw [r.intV], q _ H (fun _ _ h => h) (.int _)⟩)
  · cases hz
    replace r := reps1 r; obtain ⟨v, rfl, r⟩ := r
    exact .inl (.inr ⟨_, by rw [r.blV], q _ H (fun _ _ h => h) (.int _)⟩)
  · split at hz
    · rename_i hl
      rw [Option.map_eq_some_iff] at hz
      obtain ⟨n, hn, rfl⟩ := hz
      replace r := reps1 r; obtain ⟨v, rfl, r⟩ := r
      exact .inr ⟨_, n, by rw [r.strV], hn, by rw [toS_len]; exact hl, q _ H (fun _ _ h => h) (.int _)⟩
    · cases hz
  · cases hz
/-- str(n) -/
def strL (i : Int) : List Nat := (Str.ofString (toString i)).cps.toList
def gStr : List D → Option D
  | [.int i] => if i.natAbs.log2 < 1920 ∧ okS (strL i) = true then some (.str (strL i)) else none
  | _ => none
theorem str_ok : CallD K (fun xs H Q => ∃ i, xs = [.int i] ∧ i.natAbs.log2 < 1920 ∧ Q (.str (Str.ofString (toString i))) H) gStr := fun O H xs ds z Q _ r hz q => by
  unfold gStr at hz
  split at hz
  · split at hz
    · rename_i h
      cases hz
      replace r := reps1 r; obtain ⟨v, rfl, r⟩ := r
      exact ⟨_, by rw [r.intV], h.1, q _ H (fun _ _ h => h) (Rep.strOf _ h.2)⟩
    · cases hz
  · cases hz
theorem call_strA {X : Cx} : CallR X (.type "str") (fun xs H Q => ∃ i, xs = [V.int i] ∧ i.natAbs.log2 < 1920 ∧ Q (.str (Str.ofString (toString i))) H) := call_str_int
/-- lists of ints, of bools -/
def intsD : List D → Option (List Int)
  | [] => some []
  | .int i :: r => (intsD r).map (i :: ·)
  | _ => none
theorem intsD_eq : ∀ {l : List D} {ns : List Int}, intsD l = some ns → l = ns.map D.int
  | [], _, h => by cases h; rfl
  | .int i :: r, _, h => by
    unfold intsD at h
    rw [Option.map_eq_some_iff] at h
    obtain ⟨ns, h1, rfl⟩ := h
    rw [intsD_eq h1]; rfl
  | .non :: _, _, h => by cases h
  | .bl _ :: _, _, h => by cases h
  | .str _ :: _, _, h => by cases h
  | .tup _ :: _, _, h => by cases h
  | .lst _ :: _, _, h => by cases h
  | .scr _ :: _, _, h => by cases h
theorem intsD_map (ns : List Int) : intsD (ns.map D.int) = some ns := by
  induction ns with
  | nil => rfl
  | cons n r ih => simp [intsD, ih]
def blsD : List D → Option (List Bool)
  | [] => some []
  | .bl i :: r => (blsD r).map (i :: ·)
  | _ => none
theorem blsD_eq : ∀ {l : List D} {ns : List Bool}, blsD l = some ns → l = ns.map D.bl
  | [], _, h => by cases h; rfl
  | .bl i :: r, _, h => by
    unfold blsD at h
    rw [Option.map_eq_some_iff] at h
    obtain ⟨ns, h1, rfl⟩ := h
    rw [blsD_eq h1]; rfl
  | .non :: _, _, h => by cases h
  | .int _ :: _, _, h => by cases h
  | .str _ :: _, _, h => by cases h
  | .tup _ :: _, _, h => by cases h
  | .lst _ :: _, _, h => by cases h
  | .scr _ :: _, _, h => by cases h
theorem blsD_map (ns : List Bool) : blsD (ns.map D.bl) = some ns := by
  induction ns with
  | nil => rfl
  | cons n r ih => simp [blsD, ih]
def strsD : List D → Option (List (List Nat))
  | [] => some []
  | .str i :: r => (strsD r).map (i :: ·)
  | _ => none
theorem strsD_eq : ∀ {l : List D} {ns : List (List Nat)}, strsD l = some ns → l = ns.map D.str
  | [], _, h => by cases h; rfl
  | .str i :: r, _, h => by
    unfold strsD at h
    rw [Option.map_eq_some_iff] at h
    obtain ⟨ns, h1, rfl⟩ := h
    rw [strsD_eq h1]; rfl
  | .non :: _, _, h => by cases h
  | .int _ :: _, _, h => by cases h
  | .bl _ :: _, _, h => by cases h
  | .tup _ :: _, _, h => by cases h
  | .lst _ :: _, _, h => by cases h
  | .scr _ :: _, _, h => by cases h
theorem strsD_map (ns : List (List Nat)) : strsD (ns.map D.str) = some ns := by
  induction ns with
  | nil => rfl
  | cons n r ih => simp [strsD, ih]
def gSum : List D → Option D
  | [.lst l] => (intsD l).map fun ns => .int ns.sum
  | [.scr l] => some (.int l.sum)
  | _ => none
theorem sum_ok : CallD K (rSum K) gSum := fun O H xs ds z Q _ r hz q => by
  unfold gSum at hz
  split at hz
  · rw [Option.map_eq_some_iff] at hz
    obtain ⟨ns, hn, rfl⟩ := hz
    replace r := reps1 r; obtain ⟨v, rfl, r⟩ := r
    obtain ⟨p, xs, rfl, t, r⟩ := r.lstV
    rw [intsD_eq hn] at r
    exact ⟨p, ns, rfl, by rw [← r.intsV]; exact t.sq, q _ H (fun _ _ h => h) (.int _)⟩
  · cases hz
    replace r := reps1 r; obtain ⟨v, rfl, r⟩ := r
    obtain ⟨p, rfl, t⟩ := r.scrV
    exact ⟨p, _, rfl, t.sq, q _ H (fun _ _ h => h) (.int _)⟩
  · cases hz
def gAll : List D → Option D
  | [.lst l] => (blsD l).map fun ns => .bl (ns.all id)
  | _ => none
theorem all_ok : CallD K (rAll K) gAll := fun O H xs ds z Q _ r hz q => by
  unfold gAll at hz
  split at hz
  · rw [Option.map_eq_some_iff] at hz
    obtain ⟨ns, hn, rfl⟩ := hz
    replace r := reps1 r; obtain ⟨v, rfl, r⟩ := r
    obtain ⟨p, xs, rfl, t, r⟩ := r.lstV
    rw [blsD_eq hn] at r
    exact ⟨p, ns, rfl, by rw [← r.blsV]; exact t.sq, q _ H (fun _ _ h => h) (.bl _)⟩
  · cases hz
def gAny : List D → Option D
  | [.lst l] => (blsD l).map fun ns => .bl (ns.any id)
  | _ => none
theorem any_ok : CallD K (rAny K) gAny := fun O H xs ds z Q _ r hz q => by
  unfold gAny at hz
  split at hz
  · rw [Option.map_eq_some_iff] at hz
    obtain ⟨ns, hn, rfl⟩ := hz
    replace r := reps1 r; obtain ⟨v, rfl, r⟩ := r
    obtain ⟨p, xs, rfl, t, r⟩ := r.lstV
    rw [blsD_eq hn] at r
    exact ⟨p, ns, rfl, by rw [← r.blsV]; exact t.sq, q _ H (fun _ _ h => h) (.bl _)⟩
  · cases hz
/-- max, min of a list of ints, of two -/
def maxI : List Int → Int
  | [] => 0
  | [n] => n
  | n :: r => if maxI r < n then n else maxI r
def minI : List Int → Int
  | [] => 0
  | [n] => n
  | n :: r => if n < minI r then n else minI r
theorem maxI_mem : ∀ {l : List Int}, l ≠ [] → maxI l ∈ l ∧ ∀ y ∈ l, y ≤ maxI l
  | [], h => absurd rfl h
  | [n], _ => ⟨by simp [maxI], by simp [maxI]⟩
  | n :: m :: r, _ => by
    have ih := maxI_mem (l := m :: r) (by simp)
    have e : maxI (n :: m :: r) = if maxI (m :: r) < n then n else maxI (m :: r) := rfl
    by_cases h : maxI (m :: r) < n
    · rw [e, if_pos h]
      refine ⟨List.mem_cons_self, fun y hy => (List.mem_cons.mp hy).elim (fun z => by omega) fun z => ?_⟩
      have := ih.2 y z; omega
    · rw [e, if_neg h]
      refine ⟨List.mem_cons_of_mem _ ih.1, fun y hy => (List.mem_cons.mp hy).elim (fun z => by omega) (ih.2 y)⟩
theorem minI_mem : ∀ {l : List Int}, l ≠ [] → minI l ∈ l ∧ ∀ y ∈ l, minI l ≤ y
  | [], h => absurd rfl h
  | [n], _ => ⟨by simp [minI], by simp [minI]⟩
  | n :: m :: r, _ => by
    have ih := minI_mem (l := m :: r) (by simp)
    have e : minI (n :: m :: r) = if n < minI (m :: r) then n else minI (m :: r) := rfl
    by_cases h : n < minI (m :: r)
    · rw [e, if_pos h]
      refine ⟨List.mem_cons_self, fun y hy => (List.mem_cons.mp hy).elim (fun z => by omega) fun z => ?_⟩
      have := ih.2 y z; omega
    · rw [e, if_neg h]
      refine ⟨List.mem_cons_of_mem _ ih.1, fun y hy => (List.mem_cons.mp hy).elim (fun z => by omega) (ih.2 y)⟩
theorem maxI_eq {l : List Int} {m : Int} (h : m ∈ l) (h2 : ∀ y ∈ l, y ≤ m) : m = maxI l := by
  have ne : l ≠ [] := fun e => by rw [e] at h; cases h
  have := maxI_mem ne
  have a := h2 _ this.1; have b := this.2 m h; omega
theorem minI_eq {l : List Int} {m : Int} (h : m ∈ l) (h2 : ∀ y ∈ l, m ≤ y) : m = minI l := by
  have ne : l ≠ [] := fun e => by rw [e] at h; cases h
  have := minI_mem ne
  have a := h2 _ this.1; have b := this.2 m h; omega
def gMax : List D → Option D
  | [.lst l] => (intsD l).bind fun ns => if ns = [] then none else some (.int (maxI ns))
  | [.int i, .int j] => some (.int (if j > i then j else i))
  | _ => none
def gMin : List D → Option D
  | [.lst l] => (intsD l).bind fun ns => if ns = [] then none else some (.int (minI ns))
  | [.int i, .int j] => some (.int (if j < i then j else i))
  | _ => none
def rMaxA (K : PySem.W.Frag) : List V → Hp → VK → Prop := fun xs H Q => (∃ i j, xs = [V.int i, V.int j] ∧ Q (.int (if j > i then j else i)) H) ∨ rMax K xs H Q
def rMinA (K : PySem.W.Frag) : List V → Hp → VK → Prop := fun xs H Q => (∃ i j, xs = [V.int i, V.int j] ∧ Q (.int (if j < i then j else i)) H) ∨ rMin K xs H Q
theorem call_maxA {X : Cx} (hc : X.calm = true) : CallR X (.builtin "max") (rMaxA X.K) := (call_max2 hc).or (cr_max hc)
theorem call_minA {X : Cx} (hc : X.calm = true) : CallR X (.builtin "min") (rMinA X.K) := (call_min2 hc).or (cr_min hc)
theorem max_ok : CallD K (rMaxA K) gMax := fun O H xs ds z Q _ r hz q => by
  unfold gMax at hz
  split at hz
  · rw [Option.bind_eq_some_iff] at hz
    obtain ⟨ns, hn, hz⟩ := hz
    by_cases ne : ns = []
    · rw [if_pos ne] at hz; cases hz
    · rw [if_neg ne] at hz; cases hz
      replace r := reps1 r; obtain ⟨v, rfl, r⟩ := r
      obtain ⟨p, xs, rfl, t, r⟩ := r.lstV
      rw [intsD_eq hn] at r
      exact .inr ⟨p, ns, rfl, by rw [← r.intsV]; exact t.sq, List.length_pos_iff.mpr ne, fun m h1 h2 => by rw [maxI_eq h1 h2]; exact q _ H (fun _ _ h => h) (.int _)⟩
  · cases hz
    replace r := reps2 r; obtain ⟨v, w, rfl, r1, r2⟩ := r
    exact .inl ⟨_, _, by rw [r1.intV, r2.intV], q _ H (fun _ _ h => h) (.int _)⟩
  · cases hz
theorem min_ok : CallD K (rMinA K) gMin := fun O H xs ds z Q _ r hz q => by
  unfold gMin at hz
  split at hz
  · rw [Option.bind_eq_some_iff] at hz
    obtain ⟨ns, hn, hz⟩ := hz
    by_cases ne : ns = []
    · rw [if_pos ne] at hz; cases hz
    · rw [if_neg ne] at hz; cases hz
      replace r := reps1 r; obtain ⟨v, rfl, r⟩ := r
      obtain ⟨p, xs, rfl, t, r⟩ := r.lstV
      rw [intsD_eq hn] at r
      exact .inr ⟨p, ns, rfl, by rw [← r.intsV]; exact t.sq, List.length_pos_iff.mpr ne, fun m h1 h2 => by rw [minI_eq h1 h2]; exact q _ H (fun _ _ h => h) (.int _)⟩
  · cases hz
    replace r := reps2 r; obtain ⟨v, w, rfl, r1, r2⟩ := r
    exact .inl ⟨_, _, by rw [r1.intV, r2.intV], q _ H (fun _ _ h => h) (.int _)⟩
  · cases hz
@[simp] def gAbs : List D → Option D
  | [.int i] => some (.int (if i < 0 then -i else i))
  | _ => none
theorem abs_ok : CallD K (fun xs H Q => ∃ i, xs = [.int i] ∧ Q (.int (if i < 0 then -i else i)) H) gAbs := fun O H xs ds z Q _ r hz q => by
  unfold gAbs at hz
  split at hz
  · cases hz
    replace r := reps1 r; obtain ⟨v, rfl, r⟩ := r
    exact ⟨_, by rw [r.intV], q _ H (fun _ _ h => h) (.int _)⟩
  · cases hz
@[simp] def gDivmod : List D → Option D
  | [.int i, .int j] => if 0 < j ∧ j < 1073741824 then some (.tup [.int (i / j), .int (i % j)]) else none
  | _ => none
theorem divmod_ok : CallD K (fun xs H Q => ∃ i j, xs = [.int i, .int j] ∧ CDiv i j ∧ ∀ p, H p = none → Q (.ref p) (upd H p (.tup [.int (i / j), .int (i % j)]))) gDivmod := fun O H xs ds z Q hO r hz q => by
  unfold gDivmod at hz
  split at hz
  · split at hz
    · rename_i h
      cases hz
      replace r := reps2 r; obtain ⟨v, w, rfl, r1, r2⟩ := r
      exact ⟨_, _, by rw [r1.intV, r2.intV], h, fun p hp => q _ _ (grow_upd hp) (new_tup hO hp (.cons (.int _) (.cons (.int _) .nil)))⟩
    · cases hz
  · cases hz
def gTuple : List D → Option D
  | [.lst l] => some (.tup l)
  | [.tup l] => some (.tup l)
  | _ => none
theorem tuple_ok : CallD K (fun xs H Q => ∃ p ys, xs = [.ref p] ∧ ((SqL K H p ys ∧ ∀ l, H l = none → Q (.ref l) (upd H l (.tup ys))) ∨ (SqT K H p ys ∧ Q (.ref p) H))) gTuple := fun O H xs ds z Q hO r hz q => by
  unfold gTuple at hz
  split at hz
  · cases hz
    replace r := reps1 r; obtain ⟨v, rfl, r⟩ := r
    obtain ⟨p, xs, rfl, t, r⟩ := r.lstV
    exact ⟨p, xs, rfl, .inl ⟨t.sq, fun l hl => q _ _ (grow_upd hl) (new_tup hO hl r)⟩⟩
  · cases hz
    replace r := reps1 r; obtain ⟨v, rfl, r⟩ := r
    obtain ⟨p, xs, rfl, t, r2⟩ := r.tupV
    exact ⟨p, xs, rfl, .inr ⟨t.sq, q _ H (fun _ _ h => h) r⟩⟩
  · cases hz
def gList : List D → Option (List D)
  | [.lst l] => some l
  | [.tup l] => some l
  | [.scr l] => some (l.map D.int)
  | _ => none
theorem list_ok : CallF K (fun xs H Q => ∃ p ys, xs = [.ref p] ∧ (SqL K H p ys ∨ SqT K H p ys) ∧ ∀ l, H l = none → Q (.ref l) (upd H l (.lst ys))) gList := fun O H xs ds z Q hO r hz q => by
  unfold gList at hz
  split at hz
  · cases hz
    replace r := reps1 r; obtain ⟨v, rfl, r⟩ := r
    obtain ⟨p, xs, rfl, t, r⟩ := r.lstV
    exact ⟨p, xs, rfl, .inl t.sq, fun l hl => q l xs _ (grow_upd hl) hl upd_same (fresh_reps hl r)⟩
  · cases hz
    replace r := reps1 r; obtain ⟨v, rfl, r⟩ := r
    obtain ⟨p, xs, rfl, t, r⟩ := r.tupV
    exact ⟨p, xs, rfl, .inr t.sq, fun l hl => q l xs _ (grow_upd hl) hl upd_same (fresh_reps hl r)⟩
  · cases hz
    replace r := reps1 r; obtain ⟨v, rfl, r⟩ := r
    obtain ⟨p, rfl, t⟩ := r.scrV
    exact ⟨p, _, rfl, .inl t.sq, fun l hl => q l _ _ (grow_upd hl) hl upd_same (Reps.ints _)⟩
  · cases hz
end
end DL

namespace DL
open PySem PySem.Spec PyProof.Rows L2

/-! ### isinstance -/
def D.ty : D → String
  | .non => "NoneType"
  | .bl _ => "bool"
  | .int _ => "int"
  | .str _ => "str"
  | .tup _ => "tuple"
  | .lst _ => "list"
  | .scr _ => "list"
def isi (T : String) (d : D) : Bool := d.ty == T || (d.ty == "bool" && T == "int")
theorem rep_ty {K : PySem.W.Frag} {O : Addr → Prop} {H : Hp} {x : V} {d : D} (r : Rep K O H x d) : TyX K H x (.type d.ty) := by
  cases d with
  | non => cases r; exact .base .non
  | bl b => cases r; exact .base (.bl b)
  | int b => cases r; exact .base (.int b)
  | str b => cases r; exact .base (.str _)
  | tup l =>
    obtain ⟨p, xs, rfl, t, _⟩ := r.tupV
    rcases t with ⟨_, t | ⟨o, t⟩⟩ | ⟨o, its, n, h1, h2, _⟩
    · exact .base (.tup t)
    · exact .fTuple t
    · exact .kTuple h1 h2
  | lst l =>
    obtain ⟨p, xs, rfl, t, _⟩ := r.lstV
    exact .base (.lst t.2)
  | scr l =>
    obtain ⟨p, rfl, t⟩ := r.scrV
    rcases t with ⟨_, o, t⟩ | ⟨o, its, n, h1, h2, _⟩
    · exact .base (.frz t)
    · exact .kList h1 h2
/-- the classes that are asked for -/
def isiOk (T : String) : Bool := (["NoneType", "bool", "int", "str", "tuple", "list"].all fun t => decide (kitB t T = some (t == T || (t == "bool" && T == "int"))))
theorem isi_kit {T : String} (h : isiOk T = true) (d : D) : kitB d.ty T = some (isi T d) := by
  unfold isiOk at h
  rw [List.all_eq_true] at h
  have : d.ty ∈ ["NoneType", "bool", "int", "str", "tuple", "list"] := by cases d <;> simp [D.ty]
  exact of_decide_eq_true (h _ this)
section
variable {X : Cx} {C : Ck} {W : L2.WX} {pos : Pos}
@[simp] def dIsi (T : String) (f : En → Res D) : En → Res D := fun ρ => (f ρ).bind fun d ρ' => .ok (.bl (isi T d)) ρ'
theorem d_isi (T : String) {e : Expr} {y : Str} {p p2 : Pos} {f : En → Res D} (hi : isiOk T = true) (hm : X.mg "isinstance" = none) (hm2 : X.mg y = none) (hv2 : bootBuiltins y = some (.type T)) (h : PE X e (tD X.K C W f)) (hg : Gl X "isinstance" := by rfl) (hg2 : Gl X y := by rfl)
    (hv : bootBuiltins "isinstance" = some (.builtin "isinstance") := by decide +kernel) (hn2 : y ≠ "__name__" := by decide) (hdb2 : (y == ("__debug__" : Str)) = false := by decide)
    (hs : starEach (e :: [.Name y p2]) X.env = (false, eval e X.env) :: starEach [.Name y p2] X.env := by rfl) (hpl : (backTo pos (starEach [.Name y p2] X.env)).any (·.1) = false := by rfl) :
    PE X (.Call (.Name "isinstance" p) [e, .Name y p2] [] pos) (tD X.K C W (dIsi T f)) :=
  (pe_callB call_isi hg hm hv (pa_cons h (pa_cons (pe_bltn (v := .ty T) hg2 hm2 hv2 rfl hn2 hdb2) pa_nil) hs) (by decide) (by decide) hs hpl).imp fun σ H Q ⟨c, ρ, er, q⟩ => by
    refine tD_bind er q fun d ρ1 v H1 s r q => ?_
    exact ⟨v, .ty T, _, _, _, rfl, .ty T, rep_ty r, kit_ty (isi_kit hi d), q _ H1 s (.bl _)⟩
end

/-! ### x[i] -/
theorem Reps.atI {K : PySem.W.Frag} {O : Addr → Prop} {H : Hp} {ds : List D} {vs : List V} {i : Int} {d : D} (r : Reps K O H vs ds) (h : atI ds i = some d) : ∃ v, atI vs i = some v ∧ Rep K O H v d := by
  unfold L2.atI at h ⊢
  rw [Option.bind_eq_some_iff] at h
  obtain ⟨j, h1, h2⟩ := h
  obtain ⟨v, e, rv⟩ := r.get h2
  exact ⟨v, by rw [r.length, h1]; exact e, rv⟩
@[simp] def gIx : D → D → Option D
  | .tup l, .int i => atI l i
  | .lst l, .int i => atI l i
  | .scr l, .int i => (atI l i).map D.int
  | .str x, .int i => (atI x i).map fun c => .str [c]
  | _, _ => none
theorem okS_one {x : List Nat} (h : okS x = true) {c : Nat} (hc : c ∈ x) : okS [c] = true := okS_of (by rw [sizeLine_eq]; exact (by decide : 1 ≤ 16777216)) fun a ha => by
  rw [List.mem_singleton] at ha
  rw [ha]; exact okS_all h c hc
theorem atI_mem {α : Type} {l : List α} {i : Int} {x : α} (h : atI l i = some x) : x ∈ l := by
  unfold L2.atI at h
  rw [Option.bind_eq_some_iff] at h
  obtain ⟨j, _, h2⟩ := h
  exact List.mem_of_getElem? h2
theorem atI_map {α β : Type} (f : α → β) (l : List α) (i : Int) : atI (l.map f) i = (atI l i).map f := by
  unfold L2.atI
  rw [List.length_map]
  cases L2.ixN l.length i with
  | none => rfl
  | some j => simp
theorem ix_ok {K : PySem.W.Frag} : OpD K (rIx K) gIx := fun O H x y d e z Q _ rx ry hz q => by
  unfold gIx at hz
  split at hz
  · obtain ⟨p, xs, rfl, t, r⟩ := rx.tupV
    obtain ⟨v, e, rv⟩ := r.atI hz
    exact .inr (.inl ⟨p, xs, _, v, rfl, ry.intV, t.sq, e, q v H (fun _ _ h => h) rv⟩)
  · obtain ⟨p, xs, rfl, t, r⟩ := rx.lstV
    obtain ⟨v, e, rv⟩ := r.atI hz
    exact .inl ⟨p, xs, _, v, rfl, ry.intV, t.sq, e, q v H (fun _ _ h => h) rv⟩
  · rw [Option.map_eq_some_iff] at hz
    obtain ⟨n, hn, rfl⟩ := hz
    obtain ⟨p, rfl, t⟩ := rx.scrV
    exact .inl ⟨p, _, _, .int n, rfl, ry.intV, t.sq, by rw [atI_map, hn]; rfl, q _ H (fun _ _ h => h) (.int _)⟩
  · rw [Option.map_eq_some_iff] at hz
    obtain ⟨c, hc, rfl⟩ := hz
    have o := rx.strOk
    refine .inr (.inr ⟨_, _, c, rx.strV, ry.intV, by rw [toS_len]; exact okS_len o, by rw [toS_list]; exact hc, ?_⟩)
    exact q _ H (fun _ _ h => h) (.str [c] (okS_one o (atI_mem hc)))
  · cases hz
section
variable {X : Cx} {C : Ck} {W : L2.WX} {pos : Pos}
theorem d_ix {a b : Expr} {f1 f2 : En → Res D} (ha : PE X a (tD X.K C W f1)) (hb : PE X b (tD X.K C W f2)) (hs : PlainIx b := by intro _ _; rfl) : PE X (.Subscript a b pos) (tD X.K C W (dBin gIx f1 f2)) := (pe_ix ix_seq ha hb hs).imp (bin_imp ix_ok)

/-! ### slices -/
def cutL {α : Type} (l : List α) (lo hi : Option Int) : List α := (l.drop (HT.sIx l.length 0 lo)).take (HT.sIx l.length l.length hi - HT.sIx l.length 0 lo)
theorem Reps.cut {K : PySem.W.Frag} {O : Addr → Prop} {H : Hp} {ds : List D} {vs : List V} (r : Reps K O H vs ds) (lo hi : Option Int) : Reps K O H (cutV vs lo hi) (cutL ds lo hi) := by
  unfold cutV cutL
  rw [r.length]
  exact (r.drop _).take _
theorem cutV_ints (ns : List Int) (lo hi : Option Int) : cutV (ns.map V.int) lo hi = (cutL ns lo hi).map V.int := by unfold cutV cutL; rw [List.length_map, List.map_take, List.map_drop]
theorem cutL_mem {α : Type} {l : List α} {lo hi : Option Int} {x : α} (h : x ∈ cutL l lo hi) : x ∈ l := List.mem_of_mem_drop (List.mem_of_mem_take h)
theorem cutL_len {α : Type} (l : List α) (lo hi : Option Int) : (cutL l lo hi).length ≤ l.length := by
  unfold cutL; rw [List.length_take, List.length_drop]; omega
theorem cutL_whole {α : Type} {l : List α} {lo hi : Option Int} (h : HT.sIx l.length 0 lo = 0 ∧ HT.sIx l.length l.length hi = l.length) : cutL l lo hi = l := by
  unfold cutL
  rw [h.1, h.2]; simp
theorem okS_sub {x y : List Nat} (h : okS x = true) (l : y.length ≤ x.length) (m : ∀ c ∈ y, c ∈ x) : okS y = true := okS_of (Nat.le_trans l (okS_len h)) fun c hc => okS_all h c (m c hc)
theorem okS_cut {x : List Nat} (h : okS x = true) (lo hi : Option Int) : okS (cutL x lo hi) = true := okS_sub h (cutL_len _ _ _) fun _ hc => cutL_mem hc
theorem cutS_L (x : List Nat) (lo hi : Option Int) : cutS (toS x) lo hi = toS (cutL x lo hi) := by
  unfold cutS cutL toS
  simp [Str.length]
def tPt (K : PySem.W.Frag) (C : Ck) (W : L2.WX) (f : En → Res (Option Int)) : TO := fun σ H Q => ∃ c ρ, ER K c σ H ρ ∧ wpR (f ρ) (fun o ρ' => ∀ H', Step K c σ H ρ H' ρ' → Q o H') (EX K C W c σ H ρ)
theorem tPt_bind {K : PySem.W.Frag} {c : Bx} {σ : Sg} {H : Hp} {ρ : En} {α : Type} {f : En → Res (Option Int)} {g : Option Int → En → Res α} {Q : Option Int → Hp → Prop} {R : α → En → Prop} (er : ER K c σ H ρ) (h : wpR ((f ρ).bind g) R (EX K C W c σ H ρ))
    (k : ∀ o ρ1 H1, Step K c σ H ρ H1 ρ1 → wpR (g o ρ1) R (EX K C W c σ H ρ) → Q o H1) : tPt K C W f σ H Q :=
  ⟨c, ρ, er, wpR_mono (wpR_bind.mp h) (fun d ρ1 q H1 s => k d ρ1 H1 s q) fun _ _ _ x => x⟩
@[simp] def dNP : En → Res (Option Int) := fun ρ => .ok none ρ
@[simp] def dPt (f : En → Res D) : En → Res (Option Int) := fun ρ => (f ρ).bind fun d ρ' => match d with
  | .int i => .ok (some i) ρ'
  | _ => .no
theorem p_none : PO X none (tPt X.K C W dNP) := ⟨fun pins s σ H Q I ⟨c, ρ, er, q⟩ => po_none.run pins s σ H Q I (q H er.step)⟩
theorem p_some {e : Expr} {f : En → Res D} (h : PE X e (tD X.K C W f)) : PO X (some e) (tPt X.K C W (dPt f)) := ⟨fun pins s σ H Q I ⟨c, ρ, er, q⟩ => (po_some h).run pins s σ H Q I (tD_bind er q fun d ρ1 v H1 s r q => by
  cases d with
  | int i => exact ⟨i, r.intV, q H1 s⟩
  | _ => exact q.elim)⟩
def gSl : D → Option Int → Option Int → Option D
  | .str x, lo, hi => some (.str (cutL x lo hi))
  | .tup x, lo, hi => some (.tup (cutL x lo hi))
  | .lst x, lo, hi => some (.lst (cutL x lo hi))
  | .scr x, lo, hi => some (.lst ((cutL x lo hi).map D.int))
  | _, _, _ => none
def rSlU (K : PySem.W.Frag) : V → Option Int → Option Int → Hp → VK → Prop := fun x lo hi H Q => rSlL K x lo hi H Q ∨ (fun x lo hi H Q => rSlA K x lo hi H Q ∨ rSlS x lo hi H Q) x lo hi H Q
theorem sl_all : SlR X (rSlU X.K) := sl_list.or (sl_tupA.or sl_str)
@[simp] def dSl (f : En → Res D) (fl fh : En → Res (Option Int)) : En → Res D := fun ρ => (f ρ).bind fun d ρ1 => (fl ρ1).bind fun lo ρ2 => (fh ρ2).bind fun hi ρ3 => optR (gSl d lo hi) fun z => .ok z ρ3
theorem sl_ok {K : PySem.W.Frag} {O : Addr → Prop} {H : Hp} {x : V} {d z : D} {lo hi : Option Int} {Q : VK} (hO : ∀ a, O a → H a ≠ none) (rx : Rep K O H x d) (hz : gSl d lo hi = some z) (q : ∀ v H', (∀ b o, H b = some o → H' b = some o) → Rep K O H' v z → Q v H') : rSlU K x lo hi H Q := by
  unfold gSl at hz
  split at hz
  · cases hz
    have o := rx.strOk
    refine .inr (.inr ⟨_, rx.strV, by rw [toS_len]; exact okS_len o, ?_⟩)
    rw [cutS_L]
    exact q _ H (fun _ _ h => h) (.str _ (okS_cut o _ _))
  · cases hz
    obtain ⟨p, xs, rfl, t, r⟩ := rx.tupV
    refine .inr (.inl ⟨p, xs, rfl, t.sq, fun h => ?_, fun _ p hp => q _ _ (grow_upd hp) (new_tup hO hp (r.cut _ _))⟩)
    rw [r.length] at h
    rw [cutL_whole h] at q
    exact q _ H (fun _ _ h => h) rx
  · cases hz
    obtain ⟨p, xs, rfl, t, r⟩ := rx.lstV
    exact .inl ⟨p, xs, rfl, t.sq, fun p hp => q _ _ (grow_upd hp) (new_lst hO hp (r.cut _ _))⟩
  · cases hz
    obtain ⟨p, rfl, t⟩ := rx.scrV
    refine .inl ⟨p, _, rfl, t.sq, fun p hp => q _ _ (grow_upd hp) (new_lst hO hp ?_)⟩
    rw [cutV_ints]; exact Reps.ints _
  · cases hz
theorem d_sl {e : Expr} {lo hi : Option Expr} {p2 : Pos} {f : En → Res D} {fl fh : En → Res (Option Int)} (he : PE X e (tD X.K C W f)) (hl : PO X lo (tPt X.K C W fl)) (hh : PO X hi (tPt X.K C W fh)) : PE X (.Subscript e (.Slice lo hi none p2) pos) (tD X.K C W (dSl f fl fh)) :=
  (pe_slice sl_all he hl hh).imp fun σ H Q ⟨c, ρ, er, q⟩ => by
    refine tD_bind er q fun d ρ1 v H1 s1 r1 q1 => ?_
    refine tPt_bind s1.er (wpR_after s1 q1 fun _ _ z => z) fun l ρ2 H2 s2 q2 => ?_
    refine tPt_bind s2.er (wpR_after s2 q2 fun _ _ z => z) fun h ρ3 H3 s3 q3 => ?_
    obtain ⟨z, hz, q4⟩ := wpR_opt q3
    exact sl_ok (fun a h => s3.er.there h) ((s2.trans s3).rep r1) hz fun u H4 g4 r4 => q4 u H4 (((s1.trans s2).trans s3).trans (s3.er.grown g4)) r4
/-- a slice of a list, a new list -/
def gSlF : D → Option Int → Option Int → Option (List D)
  | .lst x, lo, hi => some (cutL x lo hi)
  | .scr x, lo, hi => some ((cutL x lo hi).map D.int)
  | _, _, _ => none
@[simp] def dSlF (f : En → Res D) (fl fh : En → Res (Option Int)) : En → Res (List D) := fun ρ => (f ρ).bind fun d ρ1 => (fl ρ1).bind fun lo ρ2 => (fh ρ2).bind fun hi ρ3 => optR (gSlF d lo hi) fun z => .ok z ρ3
theorem f_sl {e : Expr} {lo hi : Option Expr} {p2 : Pos} {f : En → Res D} {fl fh : En → Res (Option Int)} (he : PE X e (tD X.K C W f)) (hl : PO X lo (tPt X.K C W fl)) (hh : PO X hi (tPt X.K C W fh)) : PE X (.Subscript e (.Slice lo hi none p2) pos) (tF X.K C W (dSlF f fl fh)) :=
  (pe_slice sl_list he hl hh).imp fun σ H Q ⟨c, ρ, er, q⟩ => by
    refine tD_bind er q fun d ρ1 v H1 s1 r1 q1 => ?_
    refine tPt_bind s1.er (wpR_after s1 q1 fun _ _ z => z) fun l ρ2 H2 s2 q2 => ?_
    refine tPt_bind s2.er (wpR_after s2 q2 fun _ _ z => z) fun h ρ3 H3 s3 q3 => ?_
    obtain ⟨z, hz, q4⟩ := wpR_opt q3
    have s := (s1.trans s2).trans s3
    have rx := (s2.trans s3).rep r1
    unfold gSlF at hz
    split at hz
    · cases hz
      obtain ⟨p, xs, rfl, t, r⟩ := rx.lstV
      exact ⟨p, xs, rfl, t.sq, fun p hp => q4 p _ _ (s.trans (s3.er.grown (grow_upd hp))) (s.good.free hp) upd_same (s3.er.more hp) ((fresh_reps hp (r.cut _ _)).m fun _ z _ => more_le z)⟩
    · cases hz
      obtain ⟨p, rfl, t⟩ := rx.scrV
      refine ⟨p, _, rfl, t.sq, fun p hp => q4 p _ _ (s.trans (s3.er.grown (grow_upd hp))) (s.good.free hp) upd_same (s3.er.more hp) ((fresh_reps (O := OO c σ ρ3) hp ?_).m fun _ z _ => more_le z)⟩
      rw [cutV_ints]; exact Reps.ints _
    · cases hz

/-! ### methods of texts and lists, by values -/
def MtD (K : PySem.W.Frag) (r : V → List V → Hp → VK → Prop) (g : D → List D → Option D) : Prop := ∀ (O : Addr → Prop) (H : Hp) (x : V) (xs : List V) (d : D) (ds : List D) (z : D) (Q : VK), (∀ a, O a → H a ≠ none) → Rep K O H x d → Reps K O H xs ds → g d ds = some z →
  (∀ v H', (∀ b o, H b = some o → H' b = some o) → Rep K O H' v z → Q v H') → r x xs H Q
def MtF (K : PySem.W.Frag) (r : V → List V → Hp → VK → Prop) (g : D → List D → Option (List D)) : Prop := ∀ (O : Addr → Prop) (H : Hp) (x : V) (xs : List V) (d : D) (ds : List D) (zs : List D) (Q : VK), (∀ a, O a → H a ≠ none) → Rep K O H x d → Reps K O H xs ds → g d ds = some zs →
  (∀ p vs H', (∀ b o, H b = some o → H' b = some o) → H p = none → H' p = some (.lst vs) → Reps K (fun b => O b ∨ b = p) H' vs zs → Q (.ref p) H') → r x xs H Q
@[simp] def dMt {α : Type} (T : String) (g : D → List D → Option α) (f : En → Res D) (fa : En → Res (List D)) : En → Res α := fun ρ => (f ρ).bind fun d ρ1 => if d.ty = T then (fa ρ1).bind fun ds ρ2 => optR (g d ds) fun z => .ok z ρ2 else .no
theorem ty_str {K : PySem.W.Frag} {O : Addr → Prop} {H : Hp} {x : V} {d : D} (r : Rep K O H x d) (h : d.ty = "str") : tyV K "str" x H := by
  cases d with
  | str x => rw [r.strV]; rfl
  | _ => simp [D.ty] at h
theorem ty_list {K : PySem.W.Frag} {O : Addr → Prop} {H : Hp} {x : V} {d : D} (r : Rep K O H x d) (h : d.ty = "list") : tyV K "list" x H := by
  cases d with
  | lst x =>
    obtain ⟨p, xs, rfl, t, _⟩ := r.lstV
    exact .inl ⟨rfl, _, t.sq⟩
  | scr x =>
    obtain ⟨p, rfl, t⟩ := r.scrV
    exact .inl ⟨rfl, _, t.sq⟩
  | _ => simp [D.ty] at h
theorem mt_imp {K : PySem.W.Frag} {T : String} {r : V → List V → Hp → VK → Prop} {g : D → List D → Option D} {f : En → Res D} {fa : En → Res (List D)} (o : MtD K r g) (ty : ∀ {O : Addr → Prop} {H : Hp} {x : V} {d : D}, Rep K O H x d → d.ty = T → tyV K T x H) :
    ∀ σ H Q, tD K C W (dMt T g f fa) σ H Q → tBM K T r (tD K C W f) (tA K C W fa) σ H Q := fun σ H Q ⟨c, ρ, er, q⟩ => by
  refine tD_bind er q fun d ρ1 v H1 s1 r1 q1 => ?_
  obtain ⟨ht, q1⟩ := wpR_ite q1
  refine ⟨ty r1 ht, ?_⟩
  refine tA_bind s1.er (wpR_after s1 q1 fun _ _ z => z) fun ds ρ2 vs H2 s2 r2 q2 => ?_
  obtain ⟨z, hz, q3⟩ := wpR_opt q2
  exact o _ H2 v vs d ds z Q (fun a h => s2.er.there h) (s2.rep r1) r2 hz fun u H3 g3 r3 => q3 u H3 ((s1.trans s2).trans (s2.er.grown g3)) r3
theorem mtF_imp {K : PySem.W.Frag} {T : String} {r : V → List V → Hp → VK → Prop} {g : D → List D → Option (List D)} {f : En → Res D} {fa : En → Res (List D)} (o : MtF K r g) (ty : ∀ {O : Addr → Prop} {H : Hp} {x : V} {d : D}, Rep K O H x d → d.ty = T → tyV K T x H) :
    ∀ σ H Q, tF K C W (dMt T g f fa) σ H Q → tBM K T r (tD K C W f) (tA K C W fa) σ H Q := fun σ H Q ⟨c, ρ, er, q⟩ => by
  refine tD_bind er q fun d ρ1 v H1 s1 r1 q1 => ?_
  obtain ⟨ht, q1⟩ := wpR_ite q1
  refine ⟨ty r1 ht, ?_⟩
  refine tA_bind s1.er (wpR_after s1 q1 fun _ _ z => z) fun ds ρ2 vs H2 s2 r2 q2 => ?_
  obtain ⟨z, hz, q3⟩ := wpR_opt q2
  exact o _ H2 v vs d ds z Q (fun a h => s2.er.there h) (s2.rep r1) r2 hz fun p us H3 g3 h3 h4 r3 => q3 p us H3 ((s1.trans s2).trans (s2.er.grown g3)) ((s1.trans s2).good.free h3) h4 (s2.er.moreG h3 g3 (by rw [h4]; exact fun y => by cases y)) (r3.m fun _ z _ => more_le z)
theorem d_ms {o e : Expr} {es : List Expr} {name : Str} {id : String} {apos cpos : Pos} {r : V → List V → Hp → VK → Prop} {g : D → List D → Option D} {f : En → Res D} {fa : En → Res (List D)} (slot : Slot "str" name id) (hty : typeOf (.builtin id) = pure (.type "method_descriptor")) (hm : MtR X id r) (ok : MtD X.K r g)
    (ho : PE X o (tD X.K C W f)) (ha : PA X (e :: es) (tA X.K C W fa)) (hbase : attributeBase o name X.env (eval o X.env) = eval o X.env := by rfl)
    (hfew : ((backTo cpos (starEach (e :: es) X.env)).all (fun x => !x.1) && (backToKw cpos (keywordEach [] X.env)).all (fun x => x.1.isSome)
      && decide ((e :: es).length + ([] : List Keyword).length + (if ([] : List Keyword).isEmpty then 0 else 1) < 30)) = true := by rfl)
    (hline : (apos.endLine == cpos.line) = true := by rfl) (hs : starEach (e :: es) X.env = (false, eval e X.env) :: starEach es X.env := by rfl) (hplain : (backTo cpos (starEach es X.env)).any (·.1) = false := by rfl) :
    PE X (.Call (.Attribute o name apos) (e :: es) [] cpos) (tD X.K C W (dMt "str" g f fa)) := (pe_bm PySem.F.plainAttrs_str slot hty hm ho ha hbase hfew hline hs hplain).imp (mt_imp ok ty_str)
theorem f_ms {o e : Expr} {es : List Expr} {name : Str} {id : String} {apos cpos : Pos} {r : V → List V → Hp → VK → Prop} {g : D → List D → Option (List D)} {f : En → Res D} {fa : En → Res (List D)} (slot : Slot "str" name id) (hty : typeOf (.builtin id) = pure (.type "method_descriptor")) (hm : MtR X id r) (ok : MtF X.K r g)
    (ho : PE X o (tD X.K C W f)) (ha : PA X (e :: es) (tA X.K C W fa)) (hbase : attributeBase o name X.env (eval o X.env) = eval o X.env := by rfl)
    (hfew : ((backTo cpos (starEach (e :: es) X.env)).all (fun x => !x.1) && (backToKw cpos (keywordEach [] X.env)).all (fun x => x.1.isSome)
      && decide ((e :: es).length + ([] : List Keyword).length + (if ([] : List Keyword).isEmpty then 0 else 1) < 30)) = true := by rfl)
    (hline : (apos.endLine == cpos.line) = true := by rfl) (hs : starEach (e :: es) X.env = (false, eval e X.env) :: starEach es X.env := by rfl) (hplain : (backTo cpos (starEach es X.env)).any (·.1) = false := by rfl) :
    PE X (.Call (.Attribute o name apos) (e :: es) [] cpos) (tF X.K C W (dMt "str" g f fa)) := (pe_bm PySem.F.plainAttrs_str slot hty hm ho ha hbase hfew hline hs hplain).imp (mtF_imp ok ty_str)
theorem d_ml {o e : Expr} {es : List Expr} {name : Str} {id : String} {apos cpos : Pos} {r : V → List V → Hp → VK → Prop} {g : D → List D → Option D} {f : En → Res D} {fa : En → Res (List D)} (slot : Slot "list" name id) (hty : typeOf (.builtin id) = pure (.type "method_descriptor")) (hm : MtR X id r) (ok : MtD X.K r g)
    (ho : PE X o (tD X.K C W f)) (ha : PA X (e :: es) (tA X.K C W fa)) (hbase : attributeBase o name X.env (eval o X.env) = eval o X.env := by rfl)
    (hfew : ((backTo cpos (starEach (e :: es) X.env)).all (fun x => !x.1) && (backToKw cpos (keywordEach [] X.env)).all (fun x => x.1.isSome)
      && decide ((e :: es).length + ([] : List Keyword).length + (if ([] : List Keyword).isEmpty then 0 else 1) < 30)) = true := by rfl)
    (hline : (apos.endLine == cpos.line) = true := by rfl) (hs : starEach (e :: es) X.env = (false, eval e X.env) :: starEach es X.env := by rfl) (hplain : (backTo cpos (starEach es X.env)).any (·.1) = false := by rfl) :
    PE X (.Call (.Attribute o name apos) (e :: es) [] cpos) (tD X.K C W (dMt "list" g f fa)) := (pe_bm PySem.F.plainAttrs_list slot hty hm ho ha hbase hfew hline hs hplain).imp (mt_imp ok ty_list)
end

/-! #### join, zfill, startswith, index -/
section
variable {K : PySem.W.Frag}
def joinL (s : List Nat) : List (List Nat) → List Nat
  | [] => []
  | [x] => x
  | x :: y :: r => x ++ s ++ joinL s (y :: r)
theorem toS_join (s : List Nat) : ∀ l : List (List Nat), Str.join (toS s) (l.map toS) = toS (joinL s l)
  | [] => rfl
  | [x] => rfl
  | x :: y :: r => by
    have ih := toS_join s (y :: r)
    show toS x ++ toS s ++ Str.join (toS s) ((y :: r).map toS) = toS (x ++ s ++ joinL s (y :: r))
    rw [ih, toS_app, toS_app]
def gJoin : D → List D → Option D
  | .str s, [.lst l] => (strsD l).bind fun xs => if (xs.map List.length).sum + xs.length * s.length ≤ LIM then some (.str (joinL s xs)) else none
  | .str s, [.tup l] => (strsD l).bind fun xs => if (xs.map List.length).sum + xs.length * s.length ≤ LIM then some (.str (joinL s xs)) else none
  | _, _ => none
theorem joinL_len (s : List Nat) : ∀ l : List (List Nat), (joinL s l).length ≤ (l.map List.length).sum + l.length * s.length
  | [] => by simp [joinL]
  | [x] => by simp [joinL]
  | x :: y :: r => by
    have ih := joinL_len s (y :: r)
    have e : (r.length + 1 + 1) * s.length = (r.length + 1) * s.length + s.length := by rw [Nat.add_mul, Nat.one_mul]
    simp only [joinL, List.length_append, List.map_cons, List.sum_cons, List.length_cons] at ih ⊢
    rw [e]; omega
theorem joinL_mem (s : List Nat) : ∀ (l : List (List Nat)) (c : Nat), c ∈ joinL s l → c ∈ s ∨ ∃ x ∈ l, c ∈ x
  | [], c, h => by simp [joinL] at h
  | [x], c, h => .inr ⟨x, List.mem_cons_self, h⟩
  | x :: y :: r, c, h => by
    simp only [joinL, List.mem_append] at h
    rcases h with (h | h) | h
    · exact .inr ⟨x, List.mem_cons_self, h⟩
    · exact .inl h
    · rcases joinL_mem s (y :: r) c h with z | ⟨w, hw, z⟩
      · exact .inl z
      · exact .inr ⟨w, List.mem_cons_of_mem _ hw, z⟩
theorem len_map_toS (l : List (List Nat)) : (l.map toS).map (·.length) = l.map List.length := by
  rw [List.map_map]
  exact List.map_congr_left fun x _ => toS_len x
theorem join_ok : MtD K (fun x xs H Q => ∃ a p, ∃ ys : List Str, x = .str a ∧ xs = [.ref p] ∧ (SqL K H p (ys.map V.str) ∨ SqT K H p (ys.map V.str)) ∧
    (ys.map (·.length)).sum + ys.length * a.length ≤ 16777216 ∧ Q (.str (PySem.Txt.join a ys)) H) gJoin := fun O H x xs d ds z Q _ rx rs hz q => by
  have fin : ∀ (s : List Nat) (ys : List (List Nat)), okS s = true → (∀ y ∈ ys, okS y = true) → (ys.map List.length).sum + ys.length * s.length ≤ LIM → okS (joinL s ys) = true := fun s ys h1 h2 h3 =>
    okS_of (by rw [lim_eq]; exact Nat.le_trans (joinL_len s ys) h3) fun c hc => (joinL_mem s ys c hc).elim (okS_all h1 c) fun ⟨y, hy, hc⟩ => okS_all (h2 y hy) c hc
  have ej : ∀ (s : List Nat) (ys : List (List Nat)), PySem.Txt.join (toS s) (ys.map toS) = toS (joinL s ys) := fun s ys => by
    rw [← toS_join]; exact PySem.StrLaws.glued_eq_join _ _
  unfold gJoin at hz
  split at hz
  all_goals first | (cases hz; done) | skip
  all_goals
    rw [Option.bind_eq_some_iff] at hz
    obtain ⟨ys, h1, h2⟩ := hz
    split at h2
    all_goals first | (cases h2; done) | skip
    rename_i hl
    cases h2
    replace rs := reps1 rs
    obtain ⟨v, rfl, r⟩ := rs
    have o := rx.strOk
    first
    | (obtain ⟨p, zs, rfl, t, r⟩ := r.lstV
       rw [strsD_eq h1] at r
       refine ⟨_, p, ys.map toS, rx.strV, rfl, .inl (by rw [← r.strsV]; exact t.sq), ?_, ?_⟩
       · rw [len_map_toS, List.length_map, toS_len]; exact hl
       · rw [ej]; exact q _ H (fun _ _ h => h) (.str _ (fin _ ys o r.strsOk hl)))
    | (obtain ⟨p, zs, rfl, t, r⟩ := r.tupV
       rw [strsD_eq h1] at r
       refine ⟨_, p, ys.map toS, rx.strV, rfl, .inr (by rw [← r.strsV]; exact t.sq), ?_, ?_⟩
       · rw [len_map_toS, List.length_map, toS_len]; exact hl
       · rw [ej]; exact q _ H (fun _ _ h => h) (.str _ (fin _ ys o r.strsOk hl)))
def zfillL (x : List Nat) (n : Int) : List Nat := (PySem.Txt.zfill (toS x) n).cps.toList
def gZfill : D → List D → Option D
  | .str x, [.int n] => if PadOk n = true ∧ okS (zfillL x n) = true then some (.str (zfillL x n)) else none
  | _, _ => none
theorem zfill_ok : MtD K (fun x xs H Q => ∃ (a : Str) (i : Int), x = .str a ∧ xs = [.int i] ∧ PadOk i = true ∧ Q (.str (PySem.Txt.zfill a i)) H) gZfill := fun O H x xs d ds z Q _ rx rs hz q => by
  unfold gZfill at hz
  split at hz
  · split at hz
    · rename_i h
      cases hz
      replace rs := reps1 rs
      obtain ⟨v, rfl, r⟩ := rs
      exact ⟨_, _, rx.strV, by rw [r.intV], h.1, q _ H (fun _ _ h => h) (Rep.strOf _ h.2)⟩
    · cases hz
  · cases hz
def startsL (x y : List Nat) : Bool := PySem.Txt.startswith (toS x) (toS y)
def gStarts : D → List D → Option D
  | .str x, [.str y] => some (.bl (startsL x y))
  | _, _ => none
theorem starts_ok : MtD K (fun x xs H Q => ∃ a b, x = .str a ∧ xs = [.str b] ∧ Q (.bl (PySem.Txt.startswith a b)) H) gStarts := fun O H x xs d ds z Q _ rx rs hz q => by
  unfold gStarts at hz
  split at hz
  · cases hz
    replace rs := reps1 rs
    obtain ⟨v, rfl, r⟩ := rs
    exact ⟨_, _, rx.strV, by rw [r.strV], q _ H (fun _ _ h => h) (.bl _)⟩
  · cases hz
/-- s.index(t): the place of the first t -/
def indexL (x y : List Nat) : Option Nat := PySem.Txt.index0 (toS x) (toS y)
def gIndexS : D → List D → Option D
  | .str x, [.str y] => (indexL x y).map fun k => .int (k : Nat)
  | _, _ => none
theorem indexS_ok : MtD K (fun x xs H Q => ∀ σ : Sg, rIndexX (fun _ _ _ _ => False) σ x xs H Q) gIndexS := fun O H x xs d ds z Q _ rx rs hz q σ => by
  unfold gIndexS at hz
  split at hz
  · rw [Option.map_eq_some_iff] at hz
    obtain ⟨k, hk, rfl⟩ := hz
    replace rs := reps1 rs
    obtain ⟨v, rfl, r⟩ := rs
    refine ⟨_, _, rx.strV, by rw [r.strV], fun k' hk' => ?_, fun hn => ?_⟩
    · have e : PySem.Txt.index0 _ _ = some k := hk
      rw [e] at hk'
      cases hk'
      exact q _ H (fun _ _ h => h) (.int _)
    · have e : PySem.Txt.index0 _ _ = some k := hk
      rw [e] at hn
      cases hn
  · cases hz
theorem mt_indexS {X : Cx} (hc : X.calm = true) : MtR X "str.index" (fun x xs H Q => ∀ σ : Sg, rIndexX (fun _ _ _ _ => False) σ x xs H Q) := fun pins s σ H x xs v us Q I rx rs h =>
  mt_indexX hc takes0 pins s σ H x xs v us Q I rx rs (h σ)
/-- l.index(x), flat items -/
def indexD (d : D) : List D → Option Nat
  | [] => none
  | e :: r => if D.eqv e d = true then some 0 else (indexD d r).map (· + 1)
def gIndexL : D → List D → Option D
  | .lst l, [d] => if (d.flat && l.all D.flat) = true then (indexD d l).map fun k => .int (k : Nat) else none
  | _, _ => none
theorem indexD_some {d : D} : ∀ {l : List D} {k : Nat}, indexD d l = some k → (∃ e, l[k]? = some e ∧ D.eqv e d = true) ∧ ∀ m e, m < k → l[m]? = some e → D.eqv e d = false
  | [], _, h => by cases h
  | e :: r, k, h => by
    unfold indexD at h
    split at h
    · rename_i he
      cases h
      exact ⟨⟨e, rfl, he⟩, fun m _ hm => absurd hm (Nat.not_lt_zero m)⟩
    · rename_i he
      rw [Option.map_eq_some_iff] at h
      obtain ⟨k, hk, rfl⟩ := h
      obtain ⟨⟨e', h1, h2⟩, h3⟩ := indexD_some hk
      refine ⟨⟨e', by simpa using h1, h2⟩, fun m x hm hx => ?_⟩
      cases m with
      | zero => simp at hx; subst hx; simpa using he
      | succ m => exact h3 m x (by omega) (by simpa using hx)
theorem indexL_ok : MtD K (rIndex K) gIndexL := fun O H x xs d ds z Q _ rx rs hz q => by
  unfold gIndexL at hz
  split at hz
  · split at hz
    · rename_i c
      rw [Option.map_eq_some_iff] at hz
      obtain ⟨k, hk, rfl⟩ := hz
      rw [Bool.and_eq_true_iff] at c
      replace rs := reps1 rs
      obtain ⟨v, rfl, r⟩ := rs
      obtain ⟨p, ys, rfl, t, ry⟩ := rx.lstV
      obtain ⟨⟨e, h1, h2⟩, h3⟩ := indexD_some hk
      obtain ⟨w, hw, rw'⟩ := ry.get h1
      have fl : ∀ e' ∈ _, D.flat e' = true := List.all_eq_true.mp c.2
      refine ⟨p, ys, v, k, w, rfl, rfl, t.sq, flat_V r c.1, flats_V ry c.2, hw, ?_, fun m z' hm hz' => ?_, q _ H (fun _ _ h => h) (.int _)⟩
      · rw [eqV_D rw' r (fl e (List.mem_of_getElem? h1)) c.1]; exact h2
      · obtain ⟨e', h4, h5⟩ := ry.getV hz'
        rw [eqV_D h5 r (fl e' (List.mem_of_getElem? h4)) c.1]; exact h3 m e' hm h4
    · cases hz
  · cases hz
end
end DL

namespace DL
open PySem PySem.Spec PyProof.Rows L2

/-! ### what is walked -/
/-- the iterator hands out these values, whatever the body does with what it may write -/
def Walk (K : PySem.W.Frag) (J : It) (items : List D) (O : Addr → Prop) (H1 : Hp) : Prop := ∀ (i : Nat) (H : Hp) (O2 : Addr → Prop), (∀ b o, H1 b = some o → ¬ O b → H b = some o) → (∀ b, O2 b → O b ∨ H1 b = none) → (∀ b, O2 b → H b ≠ none) →
  (i = items.length → J.stop i H) ∧ ∀ d, items[i]? = some d → J.go i H ∧ ∀ x H', J.yld i H x H' → (∀ b o, H b = some o → H' b = some o) ∧ Rep K O2 H' x d
def tI (K : PySem.W.Frag) (C : Ck) (W : L2.WX) (f : En → Res (List D)) : TI := fun σ H R => ∃ c ρ, ER K c σ H ρ ∧ wpR (f ρ) (fun ds ρ' => ∀ J H', Step K c σ H ρ H' ρ' → Walk K J ds (OO c σ ρ') H' → R J H') (EX K C W c σ H ρ)
theorem _root_.L2.PI.imp {X : Cx} {tg e : Expr} {t t' : TI} (h : PI X tg e t) (i : ∀ σ H Q, t' σ H Q → t σ H Q) : PI X tg e t' := ⟨fun pins s σ H Q I q => h.run pins s σ H Q I (i σ H Q q)⟩
theorem PI.or {X : Cx} {tg e : Expr} {t t' : TI} (h : PI X tg e t) (h' : PI X tg e t') : PI X tg e (fun σ H R => t σ H R ∨ t' σ H R) := ⟨fun pins s σ H Q I q => q.elim (h.run pins s σ H Q I) (h'.run pins s σ H Q I)⟩
section
variable {K : PySem.W.Frag} {O O2 : Addr → Prop} {H H1 : Hp}
/-- what stood at the loop's start as a value is one at a turn -/
theorem rep_turn {v : V} {d : D} (r : Rep K O H1 v d) (k : ∀ b o, H1 b = some o → ¬ O b → H b = some o) (m : ∀ b, O2 b → O b ∨ H1 b = none) (g : ∀ b, H1 b ≠ none → O b → H b ≠ none ∨ True) : Rep K O2 H v d := by
  have nd : ∀ b, H1 b ≠ none → ¬ O b → H b = H1 b := fun b h n => by
    cases e : H1 b with
    | none => exact absurd e h
    | some o => exact k b o e n
  -- nodes of r stand in H1 and are not marked
  have go : ∀ (d : D) (v : V), Rep K O H1 v d → Rep K O2 H v d := by
    have aux : (∀ (d : D) (v : V), Rep K O H1 v d → Rep K O2 H v d) ∧ True := by
      refine ⟨?_, trivial⟩
      intro d
      refine D.rec (motive_1 := fun d => ∀ v, Rep K O H1 v d → Rep K O2 H v d) (motive_2 := fun ds => ∀ vs, Reps K O H1 vs ds → Reps K O2 H vs ds) ?_ ?_ ?_ ?_ ?_ ?_ ?_ ?_ ?_ d
      · intro v h; cases h; exact .non
      · intro b v h; cases h; exact .bl b
      · intro b v h; cases h; exact .int b
      · intro x v h; cases h with | str _ o => exact .str x o
      · intro l ih v h
        cases h with | tup a q =>
        refine .tup ?_ (ih _ q)
        rcases a with ⟨n, a⟩ | a
        · refine .inl ⟨fun z => (m _ z).elim n (Rd.some_of a), ?_⟩
          exact a.imp (fun e => k _ _ e n) fun ⟨o, e⟩ => ⟨o, k _ _ e n⟩
        · exact .inr a
      · intro l ih v h
        cases h with | lst a q =>
        exact .lst ⟨fun z => (m _ z).elim a.1 (by rw [a.2]; exact fun y => by cases y), k _ _ a.2 a.1⟩ (ih _ q)
      · intro l v h
        cases h with | scr a =>
        refine .scr ?_
        rcases a with ⟨n, o, e⟩ | a
        · exact .inl ⟨fun z => (m _ z).elim n (by rw [e]; exact fun y => by cases y), o, k _ _ e n⟩
        · exact .inr a
      · intro vs h; cases h; exact .nil
      · intro d ds ihd ihs vs h
        cases h with | cons a q => exact .cons (ihd _ a) (ihs _ q)
    exact aux.1
  exact go d v r
theorem SqL.turn {a : Addr} {xs : List V} (n : ¬ O a) (h : Rd H1 a (.lst xs)) (k : ∀ b o, H1 b = some o → ¬ O b → H b = some o) : SqL K H a xs := .inl (h.imp (fun e => k _ _ e n) fun ⟨o, e⟩ => ⟨o, k _ _ e n⟩)
theorem walk_list {a : Addr} {xs : List V} {ds : List D} (hs : ∀ H, (∀ b o, H1 b = some o → ¬ O b → H b = some o) → SqL K H a xs) (r : Reps K O H1 xs ds) : Walk K (Itl K a) ds O H1 := fun i H O2 k m _ => by
  refine ⟨fun e => ⟨xs, hs H k, by rw [e, r.length]; exact Nat.le_refl _⟩, fun d hd => ?_⟩
  obtain ⟨v, hv, rv⟩ := r.get hd
  refine ⟨⟨xs, v, hs H k, hv⟩, fun x H' y => ?_⟩
  obtain ⟨rfl, y⟩ := y
  have e := y xs (hs _ k)
  rw [hv] at e; cases e
  exact ⟨fun _ _ h => h, rep_turn rv k m fun _ _ _ => .inr trivial⟩
theorem walk_tup {a : Addr} {xs : List V} {ds : List D} (hs : ∀ H, (∀ b o, H1 b = some o → ¬ O b → H b = some o) → SqT K H a xs) (r : Reps K O H1 xs ds) : Walk K (Itt K a) ds O H1 := fun i H O2 k m _ => by
  refine ⟨fun e => ⟨xs, hs H k, by rw [e, r.length]; exact Nat.le_refl _⟩, fun d hd => ?_⟩
  obtain ⟨v, hv, rv⟩ := r.get hd
  refine ⟨⟨xs, v, hs H k, hv⟩, fun x H' y => ?_⟩
  obtain ⟨rfl, y⟩ := y
  have e := y xs (hs _ k)
  rw [hv] at e; cases e
  exact ⟨fun _ _ h => h, rep_turn rv k m fun _ _ _ => .inr trivial⟩
def chars (x : List Nat) : List D := x.map fun c => .str [c]
theorem walk_str {x : List Nat} (o : okS x = true) : Walk K (Its (toS x)) (chars x) O H1 := fun i H O2 _ _ _ => by
  have e1 : (toS x).cps.size = x.length := by simp [toS]
  refine ⟨fun e => by show (toS x).cps.size ≤ i; rw [e1, e]; simp [chars], fun d hd => ?_⟩
  unfold chars at hd
  rw [List.getElem?_map, Option.map_eq_some_iff] at hd
  obtain ⟨c, hc, rfl⟩ := hd
  refine ⟨by show i < (toS x).cps.size; rw [e1]; exact (List.getElem?_eq_some_iff.mp hc).1, fun v H' y => ?_⟩
  obtain ⟨rfl, c', h1, rfl⟩ := y
  have e2 : (toS x).cps[i]? = x[i]? := by simp [toS]
  rw [e2, hc] at h1
  cases h1
  exact ⟨fun _ _ h => h, .str [c] (okS_one o (List.mem_of_getElem? hc))⟩
def rangeD (lo : Int) (n : Nat) : List D := (List.range n).map fun k => .int (lo + (k : Nat))
theorem walk_rng {lo : Int} {n : Nat} : Walk K (Itr lo n) (rangeD lo n) O H1 := fun i H O2 _ _ _ => by
  refine ⟨fun e => by show n ≤ i; rw [e]; simp [rangeD], fun d hd => ?_⟩
  unfold rangeD at hd
  rw [List.getElem?_map, Option.map_eq_some_iff] at hd
  obtain ⟨k, hk, rfl⟩ := hd
  obtain ⟨h1, h2⟩ := List.getElem?_eq_some_iff.mp hk
  rw [List.length_range] at h1
  rw [List.getElem_range] at h2
  subst h2
  refine ⟨h1, fun v H' y => ?_⟩
  obtain ⟨rfl, rfl⟩ := y
  exact ⟨fun _ _ h => h, .int _⟩
def rangeC (lo c : Int) (n : Nat) : List D := (List.range n).map fun k => .int (lo + (k : Nat) * c)
theorem walk_rngC {lo c : Int} {n : Nat} : Walk K (Itc lo c n) (rangeC lo c n) O H1 := fun i H O2 _ _ _ => by
  refine ⟨fun e => by show n ≤ i; rw [e]; simp [rangeC], fun d hd => ?_⟩
  unfold rangeC at hd
  rw [List.getElem?_map, Option.map_eq_some_iff] at hd
  obtain ⟨k, hk, rfl⟩ := hd
  obtain ⟨h1, h2⟩ := List.getElem?_eq_some_iff.mp hk
  rw [List.length_range] at h1
  rw [List.getElem_range] at h2
  subst h2
  refine ⟨h1, fun v H' y => ?_⟩
  obtain ⟨rfl, rfl⟩ := y
  exact ⟨fun _ _ h => h, .int _⟩
end
section
variable {X : Cx} {C : Ck} {W : L2.WX} {pos : Pos} {tg : Expr}
/-- the items of a value -/
def itemsD : D → Option (List D)
  | .lst l => some l
  | .tup l => some l
  | .str x => some (chars x)
  | .scr l => some (l.map D.int)
  | _ => none
@[simp] def dIt (f : En → Res D) : En → Res (List D) := fun ρ => (f ρ).bind fun d ρ' => optR (itemsD d) fun l => .ok l ρ'
theorem i_val {e : Expr} {f : En → Res D} (h : PE X e (tD X.K C W f)) : PI X tg e (tI X.K C W (dIt f)) := (PI.or (pi_list h) (PI.or (pi_tup h) (pi_str h))).imp fun σ H R ⟨c, ρ, er, q⟩ => by
  have key : wpR (f ρ) (fun d ρ1 => wpR (optR (itemsD d) fun l => Res.ok l ρ1) (fun ds ρ' => ∀ J H', Step X.K c σ H ρ H' ρ' → Walk X.K J ds (OO c σ ρ') H' → R J H') (EX X.K C W c σ H ρ)) (EX X.K C W c σ H ρ) := wpR_bind.mp q
  cases hf : f ρ with
  | no => rw [hf] at key; exact key.elim
  | ex n d ρ1 => exact .inl ⟨c, ρ, er, by rw [hf]; rw [hf] at key; exact key⟩
  | ok d ρ1 =>
    rw [hf] at key
    obtain ⟨l, hl, q⟩ := wpR_opt (show wpR (optR (itemsD d) fun l => Res.ok l ρ1) _ _ from key)
    unfold itemsD at hl
    split at hl
    · cases hl
      refine .inl ⟨c, ρ, er, ?_⟩
      rw [hf]
      intro v H1 s r
      obtain ⟨p, xs, rfl, t, r⟩ := r.lstV
      exact ⟨p, rfl, ⟨xs, t.sq⟩, q _ H1 s (walk_list (fun H k => SqL.turn t.1 (.inl t.2) k) r)⟩
    · cases hl
      refine .inr (.inl ⟨c, ρ, er, ?_⟩)
      rw [hf]
      intro v H1 s r
      obtain ⟨p, xs, rfl, t, r⟩ := r.tupV
      refine ⟨p, rfl, ⟨xs, t.sq⟩, q _ H1 s (walk_tup (fun H k => ?_) r)⟩
      rcases t with ⟨n, t⟩ | t
      · exact .inl (t.imp (fun e => k _ _ e n) fun ⟨o, e⟩ => ⟨o, k _ _ e n⟩)
      · exact .inr t
    · cases hl
      refine .inr (.inr ⟨c, ρ, er, ?_⟩)
      rw [hf]
      intro v H1 s r
      exact ⟨_, r.strV, q _ H1 s (walk_str r.strOk)⟩
    · cases hl
      refine .inl ⟨c, ρ, er, ?_⟩
      rw [hf]
      intro v H1 s r
      obtain ⟨p, rfl, t⟩ := r.scrV
      refine ⟨p, rfl, ⟨_, t.sq⟩, q _ H1 s (walk_list (fun H k => ?_) (Reps.ints _))⟩
      rcases t with ⟨n, o, t⟩ | t
      · exact SqL.turn n (.inr ⟨o, t⟩) k
      · exact .inr t
    · cases hl
def LR : Int := 1000000000000
@[simp] def dR1 (f : En → Res (List D)) : En → Res (List D) := fun ρ => (f ρ).bind fun ds ρ' => match ds with
  | [.int j] => if -LR ≤ j ∧ j ≤ LR then .ok (rangeD 0 j.toNat) ρ' else .no
  | _ => .no
@[simp] def dR2 (f : En → Res (List D)) : En → Res (List D) := fun ρ => (f ρ).bind fun ds ρ' => match ds with
  | [.int i, .int j] => if (-LR ≤ i ∧ i ≤ LR) ∧ (-LR ≤ j ∧ j ≤ LR) then .ok (rangeD i (j - i).toNat) ρ' else .no
  | _ => .no
theorem i_range1 {a : Expr} {p : Pos} {f : En → Res (List D)} (hm : X.mg "range" = none) (ha : PA X [a] (tA X.K C W f)) (hg : Gl X "range" := by rfl) (hs : starEach [a] X.env = [(false, eval a X.env)] := by rfl) :
    PI X tg (.Call (.Name "range" p) [a] [] pos) (tI X.K C W (dR1 f)) := (pi_range1 hg hm ha hs).imp fun σ H R ⟨c, ρ, er, q⟩ => by
  refine tA_bind er q fun ds ρ1 vs H1 s r q => ?_
  split at q
  · obtain ⟨h, q⟩ := wpR_ite q
    replace r := reps1 r
    obtain ⟨v, rfl, r⟩ := r
    unfold LR at h
    exact ⟨_, by rw [r.intV], by omega, by omega, q _ H1 s walk_rng⟩
  · exact q.elim
theorem i_range2 {a b : Expr} {p : Pos} {f : En → Res (List D)} (hm : X.mg "range" = none) (ha : PA X [a, b] (tA X.K C W f)) (hg : Gl X "range" := by rfl) (hs : starEach [a, b] X.env = [(false, eval a X.env), (false, eval b X.env)] := by rfl) (hs2 : starEach [b] X.env = [(false, eval b X.env)] := by rfl) :
    PI X tg (.Call (.Name "range" p) [a, b] [] pos) (tI X.K C W (dR2 f)) := (pi_range2 hg hm ha hs hs2).imp fun σ H R ⟨c, ρ, er, q⟩ => by
  refine tA_bind er q fun ds ρ1 vs H1 s r q => ?_
  split at q
  · obtain ⟨h, q⟩ := wpR_ite q
    replace r := reps2 r
    obtain ⟨v, w, rfl, r, r2⟩ := r
    unfold LR at h
    exact ⟨_, _, by rw [r.intV, r2.intV], ⟨by omega, by omega, by omega, by omega⟩, q _ H1 s walk_rng⟩
  · exact q.elim
end
end DL

namespace DL
open PySem PySem.Spec PyProof.Rows L2

/-! ### targets -/
section
variable {K : PySem.W.Frag} {c : Bx} {σ : Sg} {H : Hp} {ρ : En}
/-- a slot is given a value -/
theorem ER.setFz {i : Nat} {v : V} {d : D} (er : ER K c σ H ρ) (r : Rep K (OO c σ ρ) H v d) : ER K c (σ.set i (some v)) H (ρ.set i (.fz d)) ∧ ∀ a, own (σ.set i (some v)) (ρ.set i (.fz d)) a → own σ ρ a := by
  have at_ : ∀ j b, ownAt (σ.set i (some v)) (ρ.set i (.fz d)) j b → j ≠ i ∧ ownAt σ ρ j b := fun j b ⟨⟨s, es, z1, z2⟩, z3⟩ => by
    by_cases hj : j = i
    · subst hj
      by_cases hl : j < ρ.length
      · rw [List.getElem?_set_self hl] at z1; cases z1; cases z2
      · rw [List.getElem?_eq_none (by rw [List.length_set]; omega)] at z1; cases z1
    · rw [List.getElem?_set_ne (Ne.symm hj)] at z1 z3
      exact ⟨hj, ⟨s, es, z1, z2⟩, z3⟩
  have le : ∀ b, own (σ.set i (some v)) (ρ.set i (.fz d)) b → own σ ρ b := fun b ⟨j, z⟩ => ⟨j, (at_ j b z).2⟩
  have le2 : ∀ b, OO c (σ.set i (some v)) (ρ.set i (.fz d)) b → OO c σ ρ b := fun b z => z.imp id (Or.imp id (le b))
  refine ⟨⟨by rw [List.length_set, List.length_set]; exact er.len, fun j e hj => ?_, fun j s es hj hs => ?_, fun j k b hj hk => er.one j k b (at_ j b hj).2 (at_ k b hk).2, fun j b es hj hb => ?_, fun j b es hj hb => ?_, er.good, er.bt, er.pb, er.zt, er.z0, fun b z y => er.zo b z (le b y)⟩, le⟩
  · by_cases e1 : j = i
    · subst e1
      have hl : j < ρ.length := by
        have := (List.getElem?_eq_some_iff.mp hj).1
        rwa [List.length_set] at this
      rw [List.getElem?_set_self hl] at hj; cases hj
      exact ⟨v, List.getElem?_set_self (by rw [er.len]; exact hl), r.m fun b z _ => le2 b z⟩
    · rw [List.getElem?_set_ne (Ne.symm e1)] at hj
      obtain ⟨w, z1, z2⟩ := er.fz j e hj
      exact ⟨w, by rw [List.getElem?_set_ne (Ne.symm e1)]; exact z1, z2.m fun b z _ => le2 b z⟩
  · by_cases e1 : j = i
    · subst e1
      have hl : j < ρ.length := by
        have := (List.getElem?_eq_some_iff.mp hj).1
        rwa [List.length_set] at this
      rw [List.getElem?_set_self hl] at hj; cases hj; cases hs
    · rw [List.getElem?_set_ne (Ne.symm e1)] at hj
      obtain ⟨b, vs', z1, z2, z3⟩ := er.ow j s es hj hs
      exact ⟨b, vs', by rw [List.getElem?_set_ne (Ne.symm e1)]; exact z1, z2, z3.m fun b z _ => le2 b z⟩
  · obtain ⟨e1, y⟩ := at_ j b ⟨⟨_, _, hj, rfl⟩, hb⟩
    rw [List.getElem?_set_ne (Ne.symm e1)] at hj
    exact er.mine j b es hj y.2
  · obtain ⟨e1, y⟩ := at_ j b ⟨⟨_, _, hj, rfl⟩, hb⟩
    rw [List.getElem?_set_ne (Ne.symm e1)] at hj
    exact er.lent j b es hj y.2
end
/-- a target: what it does to the slots; ts: the slots that it stores to -/
def TgD (K : PySem.W.Frag) (gD : D → En → Option En) (ts : List Nat) (g : TG) : Prop := ∀ (c : Bx) (σ : Sg) (H : Hp) (ρ ρ' : En) (v : V) (d : D) (Q : Sg → Hp → Prop), ER K c σ H ρ → Rep K (OO c σ ρ) H v d → gD d ρ = some ρ' →
  (∀ σ', ER K c σ' H ρ' → (∀ a, own σ' ρ' a → own σ ρ a) → (∀ j, j ∉ ts → σ'[j]? = σ[j]? ∧ ρ'[j]? = ρ[j]?) → σ'.length = σ.length → Q σ' H) → g v σ H Q
def TgsD (K : PySem.W.Frag) (gD : List D → En → Option En) (ts : List Nat) (g : TGs) : Prop := ∀ (c : Bx) (σ : Sg) (H : Hp) (ρ ρ' : En) (vs : List V) (ds : List D) (Q : Sg → Hp → Prop), ER K c σ H ρ → Reps K (OO c σ ρ) H vs ds → gD ds ρ = some ρ' →
  (∀ σ', ER K c σ' H ρ' → (∀ a, own σ' ρ' a → own σ ρ a) → (∀ j, j ∉ ts → σ'[j]? = σ[j]? ∧ ρ'[j]? = ρ[j]?) → σ'.length = σ.length → Q σ' H) → g vs σ H Q
@[simp] def gN (i : Nat) : D → En → Option En := fun d ρ => some (ρ.set i (.fz d))
@[simp] def gT (g : List D → En → Option En) : D → En → Option En := fun d ρ => match d with
  | .tup l => g l ρ
  | _ => none
def gTL (g : List D → En → Option En) : D → En → Option En := fun d ρ => match d with
  | .tup l => g l ρ
  | .lst l => g l ρ
  | _ => none
@[simp] def gs0 : List D → En → Option En := fun ds ρ => match ds with
  | [] => some ρ
  | _ => none
@[simp] def gsC (g : D → En → Option En) (gs : List D → En → Option En) : List D → En → Option En := fun ds ρ => match ds with
  | d :: r => (g d ρ).bind fun ρ' => gs r ρ'
  | [] => none
theorem tg_name {K : PySem.W.Frag} {i : Nat} : TgD K (gN i) [i] (gName i) := fun c σ H ρ ρ' v d Q er r h q => by
  cases h
  obtain ⟨e1, e2⟩ := er.setFz (i := i) r
  refine q _ e1 e2 (fun j hj => ?_) (List.length_set ..)
  have : i ≠ j := fun e => hj (by simp [e])
  · rw [List.getElem?_set_ne this, List.getElem?_set_ne this]
    exact ⟨rfl, rfl⟩
theorem tgs_nil {K : PySem.W.Frag} : TgsD K gs0 [] gNil := fun c σ H ρ ρ' vs ds Q er r h q => by
  unfold gs0 at h
  split at h
  · cases h; cases r
    exact ⟨rfl, q σ er (fun _ h => h) (fun _ _ => ⟨rfl, rfl⟩) rfl⟩
  · cases h
theorem tgs_cons {K : PySem.W.Frag} {g : D → En → Option En} {gs : List D → En → Option En} {ts us : List Nat} {t : TG} {u : TGs} (a : TgD K g ts t) (b : TgsD K gs us u) : TgsD K (gsC g gs) (ts ++ us) (gCons t u) := fun c σ H ρ ρ' vs ds Q er r h q => by
  unfold gsC at h
  split at h
  · rename_i d ds
    rw [Option.bind_eq_some_iff] at h
    obtain ⟨ρ1, h1, h2⟩ := h
    cases r with | cons ra rb =>
    refine ⟨_, _, rfl, ?_⟩
    refine a c σ H ρ ρ1 _ _ _ er ra h1 fun σ1 e1 l1 k1 n1 => ?_
    refine b c σ1 H ρ1 ρ' _ _ Q e1 (rb.m fun x z _ => z.imp id (Or.imp id (l1 x))) h2 fun σ2 e2 l2 k2 n2 => ?_
    refine q σ2 e2 (fun x z => l1 x (l2 x z)) (fun j hj => ?_) (n2.trans n1)
    have j1 : j ∉ ts := fun z => hj (List.mem_append_left _ z)
    have j2 : j ∉ us := fun z => hj (List.mem_append_right _ z)
    exact ⟨(k2 j j2).1.trans (k1 j j1).1, (k2 j j2).2.trans (k1 j j1).2⟩
  · cases h
theorem gsC_len {g : D → En → Option En} {gs : List D → En → Option En} {n : Nat} (h : ∀ ds ρ ρ', gs ds ρ = some ρ' → ds.length = n) : ∀ ds ρ ρ', gsC g gs ds ρ = some ρ' → ds.length = n + 1 := fun ds ρ ρ' e => by
  unfold gsC at e
  split at e
  · rw [Option.bind_eq_some_iff] at e
    obtain ⟨ρ1, _, h2⟩ := e
    simp [h _ _ _ h2]
  · cases e
theorem gs0_len : ∀ ds ρ ρ', gs0 ds ρ = some ρ' → ds.length = 0 := fun ds ρ ρ' e => by
  unfold gs0 at e
  split at e
  · rfl
  · cases e
theorem tg_tup {K : PySem.W.Frag} {n : Nat} {gs : List D → En → Option En} {ts : List Nat} {u : TGs} (b : TgsD K gs ts u) (hn : ∀ ds ρ ρ', gs ds ρ = some ρ' → ds.length = n) : TgD K (gT gs) ts (gTup K n u) := fun c σ H ρ ρ' v d Q er r h q => by
  unfold gT at h
  split at h
  · obtain ⟨a, xs, rfl, t, rs⟩ := r.tupV
    exact ⟨a, xs, rfl, t.sq, by rw [rs.length]; exact hn _ _ _ h, b c σ H ρ ρ' _ _ Q er rs h q⟩
  · cases h

/-! ### list comprehensions -/
@[simp] def wipeE (ρ : En) : List Nat → En
  | [] => ρ
  | v :: vs => (wipeE ρ vs).set v .no
@[simp] def mixE (ρ ρ' : En) : List Nat → En
  | [] => ρ'
  | v :: vs => (mixE ρ ρ' vs).set v (ρ.getD v .no)
@[simp] def Res.nx {α : Type} (m : Res α) : Res α := match m with
  | .ex _ _ _ => .no
  | x => x
def noE {α : Type} (f : En → Res α) : En → Res α := fun ρ => (f ρ).nx
/-- one turn -/
@[simp] def dTurn (g : D → En → Option En) (tt : En → Res Bool) (fe : En → Res D) : D → En → Res (Option D) := fun x ρ => optR (g x ρ) fun ρ1 => (tt ρ1).bind fun b ρ2 => if b = true then (fe ρ2).bind fun d ρ3 => .ok (some d) ρ3 else .ok none ρ2
def lcLoop (vs : List Nat) (turn : D → En → Res (Option D)) : List D → List D → En → Res (List D)
  | [], acc, ρ => .ok acc ρ
  | x :: r, acc, ρ => (turn x ρ).bind fun o ρ' => if acc.length < LIM then lcLoop vs turn r (match o with | some d => acc ++ [d] | none => acc) (wipeE ρ' vs) else .no
/-- the block's own names hold no list of the def's own -/
@[simp] def clr (ρ : En) (vs : List Nat) : Bool := vs.all fun v => match ρ[v]? with
  | some s => s.own.isNone
  | none => true
@[simp] def dLc (vs : List Nat) (fi : En → Res (List D)) (g : D → En → Option En) (tt : En → Res Bool) (fe : En → Res D) : En → Res (List D) := fun ρ => (fi ρ).bind fun items ρ1 => if clr ρ1 vs = true then (lcLoop vs (dTurn g tt fe) items [] (wipeE ρ1 vs)).nx.bind fun acc ρ2 => .ok acc (mixE ρ1 ρ2 vs) else .no
theorem wipeE_len (ρ : En) : ∀ vs, (wipeE ρ vs).length = ρ.length
  | [] => rfl
  | v :: vs => by unfold wipeE; rw [List.length_set, wipeE_len ρ vs]
theorem wipeE_out {ρ : En} {i : Nat} : ∀ {vs : List Nat}, i ∉ vs → (wipeE ρ vs)[i]? = ρ[i]?
  | [], _ => rfl
  | v :: vs, h => by
    unfold wipeE
    rw [List.getElem?_set_ne (fun e => h (by simp [e])), wipeE_out fun z => h (List.mem_cons_of_mem _ z)]
theorem wipeE_in {ρ : En} {i : Nat} {s : Sl} : ∀ {vs : List Nat}, i ∈ vs → (wipeE ρ vs)[i]? = some s → s = .no
  | v :: vs, h, e => by
    unfold wipeE at e
    by_cases hv : v = i
    · subst hv
      by_cases hl : v < (wipeE ρ vs).length
      · rw [List.getElem?_set_self hl] at e; cases e; rfl
      · rw [List.getElem?_eq_none (by rw [List.length_set]; omega)] at e; cases e
    · rw [List.getElem?_set_ne hv] at e
      exact wipeE_in ((List.mem_cons.mp h).elim (fun z => absurd z.symm hv) id) e
theorem mixE_len (ρ ρ' : En) : ∀ vs, (mixE ρ ρ' vs).length = ρ'.length
  | [] => rfl
  | v :: vs => by unfold mixE; rw [List.length_set, mixE_len ρ ρ' vs]
theorem mixE_out {ρ ρ' : En} {i : Nat} : ∀ {vs : List Nat}, i ∉ vs → (mixE ρ ρ' vs)[i]? = ρ'[i]?
  | [], _ => rfl
  | v :: vs, h => by
    unfold mixE
    rw [List.getElem?_set_ne (fun e => h (by simp [e])), mixE_out fun z => h (List.mem_cons_of_mem _ z)]
theorem mixE_in {ρ ρ' : En} {i : Nat} (hl : ρ.length = ρ'.length) : ∀ {vs : List Nat}, i ∈ vs → (mixE ρ ρ' vs)[i]? = ρ[i]?
  | v :: vs, h => by
    unfold mixE
    by_cases hv : v = i
    · subst hv
      by_cases h2 : v < ρ.length
      · rw [List.getElem?_set_self (by rw [mixE_len]; omega)]
        simp [List.getD, h2]
      · rw [List.getElem?_eq_none (by rw [List.length_set, mixE_len]; omega), List.getElem?_eq_none (by omega)]
    · rw [List.getElem?_set_ne hv]
      exact mixE_in hl ((List.mem_cons.mp h).elim (fun z => absurd z.symm hv) id)
section
variable {K : PySem.W.Frag} {c : Bx} {σ : Sg} {H : Hp} {ρ : En}
theorem ER.wipd (er : ER K c σ H ρ) (vs : List Nat) : ER K c (wipe σ vs) H (wipeE ρ vs) ∧ ∀ a, own (wipe σ vs) (wipeE ρ vs) a → own σ ρ a := by
  have at_ : ∀ j b, ownAt (L2.wipe σ vs) (wipeE ρ vs) j b → j ∉ vs ∧ ownAt σ ρ j b := fun j b ⟨⟨s, es, z1, z2⟩, z3⟩ => by
    obtain ⟨h1, h2⟩ := wipe_some z3
    rw [wipeE_out h2] at z1
    exact ⟨h2, ⟨s, es, z1, z2⟩, h1⟩
  have le : ∀ b, own (L2.wipe σ vs) (wipeE ρ vs) b → own σ ρ b := fun b ⟨j, z⟩ => ⟨j, (at_ j b z).2⟩
  have le2 : ∀ b, OO c (L2.wipe σ vs) (wipeE ρ vs) b → OO c σ ρ b := fun b z => z.imp id (Or.imp id (le b))
  refine ⟨⟨by rw [wipe_length, wipeE_len]; exact er.len, fun j e hj => ?_, fun j s es hj hs => ?_, fun j k b hj hk => er.one j k b (at_ j b hj).2 (at_ k b hk).2, fun j b es hj hb => ?_, fun j b es hj hb => ?_, er.good, er.bt, er.pb, er.zt, er.z0, fun b z y => er.zo b z (le b y)⟩, le⟩
  · by_cases e1 : j ∈ vs
    · cases wipeE_in e1 hj
    · rw [wipeE_out e1] at hj
      obtain ⟨w, z1, z2⟩ := er.fz j e hj
      exact ⟨w, by rw [wipe_out e1]; exact z1, z2.m fun b z _ => le2 b z⟩
  · by_cases e1 : j ∈ vs
    · rw [wipeE_in e1 hj] at hs; cases hs
    · rw [wipeE_out e1] at hj
      obtain ⟨b, vs', z1, z2, z3⟩ := er.ow j s es hj hs
      exact ⟨b, vs', by rw [wipe_out e1]; exact z1, z2, z3.m fun b z _ => le2 b z⟩
  · obtain ⟨e1, y⟩ := at_ j b ⟨⟨_, _, hj, rfl⟩, hb⟩
    rw [wipeE_out e1] at hj
    exact er.mine j b es hj y.2
  · obtain ⟨e1, y⟩ := at_ j b ⟨⟨_, _, hj, rfl⟩, hb⟩
    rw [wipeE_out e1] at hj
    exact er.lent j b es hj y.2
/-- the working list is written -/
theorem ER.zwrite (er : ER K c σ H ρ) {p : Addr} {o : HO} (hp : c.Z p) : ER K c σ (upd H p o) ρ := by
  have g : Good (OO c σ ρ) H (upd H p o) := Good.write (.inr (.inl hp))
  refine ⟨er.len, fun i d h => ?_, fun i s ds h1 h2 => ?_, er.one, er.mine, er.lent, ⟨fun b u e n => ?_, fun b e => g.there b (er.good.there b e)⟩, er.bt, er.pb, fun a z => g.there a (er.zt a z), er.z0, er.zo⟩
  · obtain ⟨v, q, r⟩ := er.fz i d h
    exact ⟨v, q, r.g g⟩
  · obtain ⟨a, vs, q1, q2, r⟩ := er.ow i s ds h1 h2
    refine ⟨a, vs, q1, ?_, r.g g⟩
    rw [upd_ne fun e => er.zo p hp ⟨i, ⟨s, ds, h1, h2⟩, by rw [← e]; exact q1⟩]
    exact q2
  · rw [upd_ne fun z => ?_]
    · exact er.good.keep b u e n
    · rw [z, er.z0 p hp] at e; cases e
end

theorem nx_any {α : Type} {m : Res α} {Q : α → En → Prop} {E E' : Str → D → En → Prop} (h : wpR m.nx Q E) : wpR m Q E' := by
  cases m with
  | ok a ρ => exact h
  | ex c d ρ => exact h.elim
  | no => exact h.elim
theorem nx_bind {α β : Type} {m : Res α} {f : α → En → Res β} {Q : β → En → Prop} {E : Str → D → En → Prop} (h : wpR (m.bind f).nx Q E) : wpR m.nx (fun a ρ => wpR (f a ρ).nx Q E) E := by
  cases m with
  | ok a ρ => exact h
  | ex c d ρ => exact h.elim
  | no => exact h.elim
theorem wipe_in {σ : Sg} {i : Nat} : ∀ {vs : List Nat}, i ∈ vs → i < σ.length → (wipe σ vs)[i]? = some none
  | v :: vs, h, hl => by
    unfold L2.wipe
    by_cases hv : v = i
    · subst hv
      rw [List.getElem?_set_self (by rw [wipe_length]; exact hl)]
    · rw [List.getElem?_set_ne hv]
      exact wipe_in ((List.mem_cons.mp h).elim (fun z => absurd z.symm hv) id) hl
theorem wipe_eq {σ σ2 : Sg} {vs : List Nat} (hl : σ2.length = σ.length) (h : ∀ j, j ∉ vs → σ2[j]? = σ[j]?) : wipe σ2 vs = wipe σ vs := by
  refine List.ext_getElem? fun i => ?_
  by_cases hi : i ∈ vs
  · by_cases h2 : i < σ.length
    · rw [wipe_in hi h2, wipe_in hi (by omega)]
    · rw [List.getElem?_eq_none (by rw [wipe_length]; omega), List.getElem?_eq_none (by rw [wipe_length]; omega)]
  · rw [wipe_out hi, wipe_out hi, h i hi]
theorem wipe_wipe (σ : Sg) (vs : List Nat) : wipe (wipe σ vs) vs = wipe σ vs := wipe_eq (wipe_length σ vs) fun j hj => wipe_out hj
theorem clr_at {ρ : En} {vs : List Nat} (h : clr ρ vs = true) {j : Nat} (hj : j ∈ vs) {s : Sl} (e : ρ[j]? = some s) : s.own = none := by
  unfold clr at h
  rw [List.all_eq_true] at h
  have := h j hj
  rw [e] at this
  exact Option.isNone_iff_eq_none.mp this
/-- behind the block: the def's slots -/
theorem ER.mix {K : PySem.W.Frag} {c : Bx} {σ : Sg} {H1 H : Hp} {ρ1 ρ2 : En} {vs : List Nat} {p : Addr} (e1 : ER K c σ H1 ρ1) (hcl : clr ρ1 vs = true) (hp : H1 p = none) (g : Good (fun b => own (wipe σ vs) (wipeE ρ1 vs) b ∨ b = p) (upd H1 p (.lst [])) H) (e2 : ER K (c.more p) (wipe σ vs) H ρ2)
    (le : ∀ a, own (wipe σ vs) ρ2 a → own (wipe σ vs) (wipeE ρ1 vs) a) : (Step K c σ H1 ρ1 H (mixE ρ1 ρ2 vs) ∧ ER K (c.more p) σ H (mixE ρ1 ρ2 vs)) ∧ ∀ b, own σ (mixE ρ1 ρ2 vs) b → own (wipe σ vs) ρ2 b := by
  have hlen : ρ1.length = ρ2.length := by rw [← e1.len, ← e2.len, wipe_length]
  have gg : Good (own σ ρ1) H1 H := by
    refine ⟨fun b o e n => ?_, fun b e => g.there b ((Good.upd (O := own σ ρ1) hp).there b e)⟩
    refine g.keep b o (by rw [upd_ne (ne_of_none e hp)]; exact e) ?_
    rintro (z | z)
    · exact n ((e1.wipd vs).2 b z)
    · rw [z, hp] at e; cases e
  have nin : ∀ j b, j ∈ vs → ¬ ownAt σ (mixE ρ1 ρ2 vs) j b := fun j b hj ⟨⟨s, es, z1, z2⟩, z3⟩ => by
    rw [mixE_in hlen hj] at z1
    rw [clr_at hcl hj z1] at z2; cases z2
  have out : ∀ j b, ownAt σ (mixE ρ1 ρ2 vs) j b → j ∉ vs ∧ ownAt (wipe σ vs) ρ2 j b := fun j b z => by
    by_cases hj : j ∈ vs
    · exact (nin j b hj z).elim
    · obtain ⟨⟨s, es, z1, z2⟩, z3⟩ := z
      exact ⟨hj, ⟨s, es, by rw [← mixE_out (ρ := ρ1) hj]; exact z1, z2⟩, by rw [wipe_out hj]; exact z3⟩
  have ole2 : ∀ b, own σ (mixE ρ1 ρ2 vs) b → own (wipe σ vs) ρ2 b := fun b ⟨j, z⟩ => ⟨j, (out j b z).2⟩
  have ole : ∀ b, own σ (mixE ρ1 ρ2 vs) b → own σ ρ1 b := fun b z => (e1.wipd vs).2 b (le b (ole2 b z))
  have le2 : ∀ b, OO c σ (mixE ρ1 ρ2 vs) b → OO c σ ρ1 b := fun b z => z.imp id (Or.imp id (ole b))
  have le3 : ∀ b, OO c σ (mixE ρ1 ρ2 vs) b → OO (c.more p) (wipe σ vs) ρ2 b := fun b z => z.imp id (Or.imp .inl (ole2 b))
  have gz : Good (OO c σ ρ1) H1 H := gg.mono fun _ z => .inr (.inr z)
  have le4 : ∀ b, OO (c.more p) σ (mixE ρ1 ρ2 vs) b → OO (c.more p) (wipe σ vs) ρ2 b := fun b z => z.imp id (Or.imp id (ole2 b))
  suffices em : ER K (c.more p) σ H (mixE ρ1 ρ2 vs) from ⟨⟨⟨gg, ole, em.less⟩, em⟩, ole2⟩
  refine ⟨by rw [mixE_len, ← hlen]; exact e1.len, fun j d hj => ?_, fun j s es hj hs => ?_, fun j k b hj hk => e2.one j k b (out j b hj).2 (out k b hk).2, fun j b es hj hb => ?_, fun j b es hj hb => ?_, e2.good, e1.bt, e1.pb, e2.zt, e2.z0, fun a z y => e2.zo a z (ole2 a y)⟩
  · by_cases h : j ∈ vs
    · rw [mixE_in hlen h] at hj
      obtain ⟨v, q1, q2⟩ := e1.fz j d hj
      have q3 : Rep K (fun b => OO c σ ρ1 b ∨ b = p) H1 v d := q2.m fun b z hb => z.elim id fun e => absurd hp (by rw [← e]; exact hb)
      have gM : Good (fun b => OO c σ ρ1 b ∨ b = p) H1 H := gg.mono fun _ z => .inl (.inr (.inr z))
      exact ⟨v, q1, (q3.g gM).m fun b z _ => (more_le z).imp (le2 b) id⟩
    · rw [mixE_out h] at hj
      obtain ⟨v, q1, q2⟩ := e2.fz j d hj
      exact ⟨v, by rw [← wipe_out h]; exact q1, q2.m fun b z _ => le4 b z⟩
  · by_cases h : j ∈ vs
    · rw [mixE_in hlen h] at hj
      rw [clr_at hcl h hj] at hs; cases hs
    · rw [mixE_out h] at hj
      obtain ⟨a, us, q1, q2, q3⟩ := e2.ow j s es hj hs
      exact ⟨a, us, by rw [← wipe_out h]; exact q1, q2, q3.m fun b z _ => le4 b z⟩
  · obtain ⟨h, y⟩ := out j b ⟨⟨_, _, hj, rfl⟩, hb⟩
    rw [mixE_out h] at hj
    exact e2.mine j b es hj y.2
  · obtain ⟨h, y⟩ := out j b ⟨⟨_, _, hj, rfl⟩, hb⟩
    rw [mixE_out h] at hj
    exact e2.lent j b es hj y.2
abbrev WF : L2.WX := fun _ _ _ _ => False
@[simp] def dYes : En → Res Bool := fun ρ => .ok true ρ
section
variable {X : Cx} {C : Ck} {W : L2.WX} {pos : Pos}
theorem _root_.L2.PTs.imp {ifs : List Expr} {t t' : TT} (h : PTs X ifs t) (i : ∀ σ H Q, t' σ H Q → t σ H Q) : PTs X ifs t' := ⟨fun pins s σ H Q I q => h.run pins s σ H Q I (i σ H Q q)⟩
theorem ts_nil : PTs X [] (tT X.K C W dYes) := pts_nil.imp fun σ H Q ⟨c, ρ, er, q⟩ => q H er.step
theorem ts_one {e : Expr} {f : En → Res Bool} (h : PT X e (tT X.K C W f)) : PTs X [e] (tT X.K C W f) := pts_one h
theorem nx_E {α : Type} {m : Res α} {Q : α → En → Prop} {E E' : Str → D → En → Prop} (h : wpR m.nx Q E) : wpR m.nx Q E' := by
  cases m with
  | ok a ρ => exact h
  | ex c d ρ => exact h.elim
  | no => exact h.elim
theorem optR_nx {α β : Type} {o : Option β} {f : β → Res α} : (optR o f).nx = optR o fun b => (f b).nx := by cases o <;> rfl
theorem lc_imp {K : PySem.W.Frag} {fi : En → Res (List D)} {gD : D → En → Option En} {g : TG} {ts vs : List Nat} {tt : En → Res Bool} {fe : En → Res D} (tg : TgD K gD ts g) (hts : ∀ j ∈ ts, j ∈ vs) :
    ∀ σ H Q, tF K C W (dLc vs fi gD tt fe) σ H Q → tLc (tI K C W fi) g (tT K C WF tt) (tD K C WF fe) vs σ H Q := fun σ H Q ⟨c, ρ, er, q⟩ => by
  refine ⟨c, ρ, er, wpR_mono (wpR_bind.mp q) (fun items ρ1 q J H1 s wk => ?_) fun _ _ _ x => x⟩
  obtain ⟨hcl, q⟩ := wpR_ite q
  intro p hp
  have q := nx_E (E' := fun _ _ _ => False) (wpR_bind.mp q)
  have e1 := s.er
  have hw := e1.wipd vs
  have wle : ∀ a, own (wipe σ vs) (wipeE ρ1 vs) a → OO c σ ρ1 a := fun a z => .inr (.inr (hw.2 a z))
  refine ⟨fun i m H5 => m = items.length - i ∧ i ≤ items.length ∧ ∃ (acc : List D) (ρi : En) (accV : List V),
    wpR (lcLoop vs (dTurn gD tt fe) (items.drop i) acc ρi).nx (fun acc ρ2 => wpR (Res.ok acc (mixE ρ1 ρ2 vs)) (fun ds ρ' => ∀ (a : Addr) (vs : List V) (H' : Hp), Step K c σ H ρ H' ρ' → H a = none → H' a = some (.lst vs) → ER K (c.more a) σ H' ρ' → Reps K (OO (c.more a) σ ρ') H' vs ds → Q (.ref a) H') (EX K C W c σ H ρ)) (fun _ _ _ => False) ∧
    ER K (c.more p) (wipe σ vs) H5 ρi ∧ H5 p = some (.lst accV) ∧ Reps K (OO (c.more p) (wipe σ vs) ρi) H5 accV acc ∧ Good (fun b => own (wipe σ vs) (wipeE ρ1 vs) b ∨ b = p) (upd H1 p (.lst [])) H5 ∧ ∀ a, own (wipe σ vs) ρi a → own (wipe σ vs) (wipeE ρ1 vs) a, ?_, ?_⟩
  · refine ⟨_, rfl, Nat.zero_le _, [], wipeE ρ1 vs, [], ?_, hw.1.more hp, upd_same, .nil, Good.refl, fun _ z => z⟩
    rw [List.drop_zero]; exact q
  · rintro i m H5 ⟨rfl, hi, acc, ρi, accV, qi, ei, hpi, ri, gi, li⟩
    -- what stood at the loop's start and is not written
    have keep : ∀ b o, H1 b = some o → ¬ OO c σ ρ1 b → H5 b = some o := fun b o e n => gi.keep b o (by rw [upd_ne (ne_of_none e hp)]; exact e) fun z => z.elim (fun z => n (wle b z)) fun z => by rw [z, hp] at e; cases e
    have marks : ∀ b, OO (c.more p) (wipe σ vs) ρi b → OO c σ ρ1 b ∨ H1 b = none := fun b z => by
      rcases z with z | (z | z) | z
      · exact .inl (.inl z)
      · exact .inl (.inr (.inl z))
      · exact .inr (z ▸ hp)
      · exact .inl (wle b (li b z))
    obtain ⟨w1, w2⟩ := wk i H5 (OO (c.more p) (wipe σ vs) ρi) keep marks fun b z => ei.there z
    by_cases hlt : i < items.length
    · have hd : items.drop i = items[i] :: items.drop (i + 1) := List.drop_eq_getElem_cons hlt
      rw [hd] at qi
      have qt := nx_bind qi
      obtain ⟨go, yl⟩ := w2 items[i] (List.getElem?_eq_getElem hlt)
      refine .inr ⟨go, fun H' => ∃ (acc : List D) (ρi : En) (accV : List V),
        wpR (lcLoop vs (dTurn gD tt fe) (items.drop (i + 1)) acc ρi).nx (fun acc ρ2 => wpR (Res.ok acc (mixE ρ1 ρ2 vs)) (fun ds ρ' => ∀ (a : Addr) (vs : List V) (H' : Hp), Step K c σ H ρ H' ρ' → H a = none → H' a = some (.lst vs) → ER K (c.more a) σ H' ρ' → Reps K (OO (c.more a) σ ρ') H' vs ds → Q (.ref a) H') (EX K C W c σ H ρ)) (fun _ _ _ => False) ∧
        ER K (c.more p) (wipe σ vs) H' ρi ∧ H' p = some (.lst accV) ∧ Reps K (OO (c.more p) (wipe σ vs) ρi) H' accV acc ∧ Good (fun b => own (wipe σ vs) (wipeE ρ1 vs) b ∨ b = p) (upd H1 p (.lst [])) H' ∧ ∀ a, own (wipe σ vs) ρi a → own (wipe σ vs) (wipeE ρ1 vs) a,
        fun H' h => ⟨items.length - (i + 1), by omega, rfl, hlt, h⟩, fun x H6 y => ?_⟩
      obtain ⟨g6, r6⟩ := yl x H6 y
      have s6 := ei.grown g6
      unfold dTurn at qt
      rw [optR_nx] at qt
      obtain ⟨ρa, ha, qt⟩ := wpR_opt qt
      refine tg (c.more p) (wipe σ vs) H6 ρi ρa x items[i] _ s6.er r6 ha fun σa ea la ka na => ?_
      have lena : σa.length = σ.length := na.trans (wipe_length σ vs)
      have wa : wipe σa vs = wipe σ vs := wipe_eq lena fun j hj => ((ka j fun z => hj (hts j z)).1).trans (wipe_out hj)
      refine ⟨wa, ?_⟩
      have qb := nx_bind qt
      refine ⟨c.more p, ρa, ea, wpR_mono (nx_any (E' := EX K C WF (c.more p) σa H6 ρa) qb) (fun b ρb qb Hb sb => ?_) fun _ _ _ z => z⟩
      have reps_b : Reps K (OO (c.more p) σa ρb) Hb accV acc := sb.reps ((s6.reps ri).m fun b z _ => z.imp id (Or.imp id (la b)))
      have hpb : Hb p = some (.lst accV) := sb.good.keep p _ (g6 p _ hpi) fun z => ea.zo p (.inr rfl) z
      have gb : Good (fun b => own (wipe σ vs) (wipeE ρ1 vs) b ∨ b = p) (upd H1 p (.lst [])) Hb := by
        refine (gi.trans (s6.good) fun x z => .inl (.inl (li x z))).trans sb.good fun x z => .inl (.inl (li x (la x z)))
      have lb : ∀ a, own σa ρb a → own (wipe σ vs) (wipeE ρ1 vs) a := fun a z => li a (la a (sb.le a z))
      cases b with
      | false =>
        rw [if_neg (by decide)] at qb
        refine iteF ?_
        have qb : wpR (if acc.length < LIM then lcLoop vs (dTurn gD tt fe) (items.drop (i + 1)) acc (wipeE ρb vs) else .no).nx _ _ := qb
        by_cases hL : acc.length < LIM
        · rw [if_pos hL] at qb
          have eb := sb.er.wipd vs
          rw [wa] at eb
          exact ⟨acc, wipeE ρb vs, accV, qb, eb.1, hpb, reps_b.m fun b z _ => z.imp id (Or.imp id (eb.2 b)), gb, fun a z => lb a (eb.2 a z)⟩
        · rw [if_neg hL] at qb; exact qb.elim
      | true =>
        rw [if_pos rfl] at qb
        have qc := nx_bind qb
        refine iteT ⟨c.more p, ρb, sb.er, wpR_mono (nx_any (E' := EX K C WF (c.more p) σa Hb ρb) qc) (fun d ρc qc y Hc sc rc => ?_) fun _ _ _ z => z⟩
        have qc : wpR (if acc.length < LIM then lcLoop vs (dTurn gD tt fe) (items.drop (i + 1)) (acc ++ [d]) (wipeE ρc vs) else .no).nx _ _ := qc
        by_cases hL : acc.length < LIM
        · rw [if_pos hL] at qc
          have hpc : Hc p = some (.lst accV) := sc.good.keep p _ hpb fun z => sb.er.zo p (.inr rfl) z
          have repc := sc.reps reps_b
          refine ⟨accV, hpc, by rw [repc.length, lim_eq]; exact hL, acc ++ [d], wipeE ρc vs, accV ++ [y], qc, ?_, upd_same, ?_, ?_, ?_⟩
          · have ec := (sc.er.zwrite (p := p) (o := .lst (accV ++ [y])) (.inr rfl)).wipd vs
            rw [wa] at ec
            exact ec.1
          · have ec := sc.er.wipd vs
            rw [wa] at ec
            exact ((repc.append (.cons rc .nil)).g (Good.write (O := OO (c.more p) σa ρc) (.inr (.inl (.inr rfl))))).m fun b z _ => z.imp id (Or.imp id (ec.2 b))
          · exact (gb.trans sc.good fun x z => .inl (.inl (lb x z))).trans (Good.write (O := fun b => b = p) rfl) fun x z => .inl (.inr z)
          · have ec := sc.er.wipd vs
            rw [wa] at ec
            exact fun a z => lb a (sc.le a (ec.2 a z))
        · rw [if_neg hL] at qc; exact qc.elim
    · have hil : i = items.length := by omega
      refine .inl ⟨w1 hil, ?_⟩
      rw [hil, List.drop_length] at qi
      have qi : ∀ (a : Addr) (us : List V) (H' : Hp), Step K c σ H ρ H' (mixE ρ1 ρi vs) → H a = none → H' a = some (.lst us) → ER K (c.more a) σ H' (mixE ρ1 ρi vs) → Reps K (OO (c.more a) σ (mixE ρ1 ρi vs)) H' us acc → Q (.ref a) H' := qi
      have sm := e1.mix hcl hp gi ei li
      exact qi p accV H5 (s.trans sm.1.1) (s.good.free hp) hpi sm.1.2 (ri.m fun b z _ => z.imp id (Or.imp id (sm.2 b)))
theorem f_lc {elt tgt iter : Expr} {ifs : List Expr} {scope : Scope} {own : List (Str × Nat)} {fi : En → Res (List D)} {gD : D → En → Option En} {g : TG} {ts : List Nat} {tt : En → Res Bool} {fe : En → Res D} (hc : X.calm = true) (hN : X.N.Nodup) (hi : PI X tgt iter (tI X.K C W fi)) (ok : BlkOk X.N X.env.scope scope own)
    (tg : TgD X.K gD ts g) (hts : ∀ j ∈ ts, j ∈ own.map (·.2))
    (hg : ∀ (s : Shared) (H : Hp) (Ca : Addr) (cl : List (Str × Addr)) (fp : List Addr), PG (X.blk s H scope (compEnvC scope cl Ca X.env) fp) tgt g) (ht : ∀ (s : Shared) (H : Hp) (Ca : Addr) (cl : List (Str × Addr)) (fp : List Addr), PTs (X.blk s H scope (compEnvC scope cl Ca X.env) fp) ifs (tT X.K C WF tt))
    (he : ∀ (s : Shared) (H : Hp) (Ca : Addr) (cl : List (Str × Addr)) (fp : List Addr), PE (X.blk s H scope (compEnvC scope cl Ca X.env) fp) elt (tD X.K C WF fe)) (hs : ∀ x, foldedSetIterable iter X.env x = pure x := by intro _; rfl) :
    PE X (.ListComp elt [⟨tgt, iter, ifs, 0⟩] scope pos) (tF X.K C W (dLc (own.map (·.2)) fi gD tt fe)) := (pe_lc hc hN hi ok hg ht he hs).imp (lc_imp tg hts)
end
end DL

namespace DL
open PySem PySem.Spec PyProof.Rows L2

/-! ### statements -/
inductive Fl where
  | nx | bk | ct | rt (d : D) | rf (ds : List D)
structure StS (K : PySem.W.Frag) (c : Bx) (σ : Sg) (H : Hp) (ρ : En) (σ' : Sg) (H' : Hp) (ρ' : En) : Prop where
  good : Good (own σ ρ) H H'
  le : ∀ a, own σ' ρ' a → own σ ρ a ∨ H a = none
  er : ER K c σ' H' ρ'
section
variable {K : PySem.W.Frag} {c : Bx} {σ σ1 σ2 : Sg} {H H1 H2 : Hp} {ρ ρ1 ρ2 : En}
theorem StS.refl (e : ER K c σ H ρ) : StS K c σ H ρ σ H ρ := ⟨Good.refl, fun _ z => .inl z, e⟩
theorem StS.trans (a : StS K c σ H ρ σ1 H1 ρ1) (b : StS K c σ1 H1 ρ1 σ2 H2 ρ2) : StS K c σ H ρ σ2 H2 ρ2 :=
  ⟨a.good.trans b.good a.le, fun x z => (b.le x z).elim (a.le x) fun n => .inr (a.good.free n), b.er⟩
theorem Step.st (a : Step K c σ H ρ H1 ρ1) : StS K c σ H ρ σ H1 ρ1 := ⟨a.good, fun x z => .inl (a.le x z), a.er⟩
end
section
variable (K : PySem.W.Frag) (C : Ck) (W : L2.WX)
def ES (c : Bx) (σ : Sg) (H : Hp) (ρ : En) : Str → D → En → Prop := fun n d ρ' => ∀ cls dd σ' H', StS K c σ H ρ σ' H' ρ' → XRep K C (OO c σ' ρ') H' cls dd n d → W cls dd σ' H'
def PF (c : Bx) (σ : Sg) (H : Hp) (ρ : En) (D : Ends) : Fl → En → Prop := fun fl ρ' => match fl with
  | .nx => ∀ σ' H', StS K c σ H ρ σ' H' ρ' → D.nx σ' H'
  | .bk => ∀ σ' H', StS K c σ H ρ σ' H' ρ' → D.bk σ' H'
  | .ct => ∀ σ' H', StS K c σ H ρ σ' H' ρ' → D.ct σ' H'
  | .rt d => ∀ v σ' H', StS K c σ H ρ σ' H' ρ' → Rep K (OO c σ' ρ') H' v d → D.rt v H'
  | .rf ds => ∀ a vs σ' H', StS K c σ H ρ σ' H' ρ' → c.H0 a = none → H' a = some (.lst vs) → Reps K (fun b => (c.B b ∨ c.Z b) ∨ b = a) H' vs ds → D.rt (.ref a) H'
def tS (f : En → Res Fl) : TS := fun D σ H => ∃ c ρ, ER K c σ H ρ ∧ wpR (f ρ) (PF K c σ H ρ D) (ES K C W c σ H ρ)
end
section
variable {K : PySem.W.Frag} {C : Ck} {W : L2.WX} {c : Bx} {σ σ1 : Sg} {H H1 : Hp} {ρ ρ1 : En} {Dn : Ends}
theorem PF.after (s : StS K c σ H ρ σ1 H1 ρ1) {fl : Fl} {ρ' : En} (h : PF K c σ H ρ Dn fl ρ') : PF K c σ1 H1 ρ1 Dn fl ρ' := by
  cases fl with
  | nx => exact fun σ' H' s' => h σ' H' (s.trans s')
  | bk => exact fun σ' H' s' => h σ' H' (s.trans s')
  | ct => exact fun σ' H' s' => h σ' H' (s.trans s')
  | rt d => exact fun v σ' H' s' r => h v σ' H' (s.trans s') r
  | rf ds => exact fun a vs σ' H' s' h1 h2 r => h a vs σ' H' (s.trans s') h1 h2 r
theorem ES.after (s : StS K c σ H ρ σ1 H1 ρ1) {n : Str} {d : D} {ρ' : En} (h : ES K C W c σ H ρ n d ρ') : ES K C W c σ1 H1 ρ1 n d ρ' := fun cls dd σ' H' s' x => h cls dd σ' H' (s.trans s') x
theorem ES.ex {n : Str} {d : D} {ρ' : En} (h : ES K C W c σ H ρ n d ρ') : EX K C W c σ H ρ n d ρ' := fun cls dd H' s' x => h cls dd σ H' s'.st x
theorem tS_at (s : StS K c σ H ρ σ1 H1 ρ1) {f : En → Res Fl} (h : wpR (f ρ1) (PF K c σ H ρ Dn) (ES K C W c σ H ρ)) : tS K C W f Dn σ1 H1 :=
  ⟨c, ρ1, s.er, wpR_mono h (fun _ _ z => z.after s) fun _ _ _ z => z.after s⟩
/-- an expression, then the rest -/
theorem sE {f : En → Res D} {g : D → En → Res Fl} {Q : VK} (er : ER K c σ H ρ) (h : wpR ((f ρ).bind g) (PF K c σ H ρ Dn) (ES K C W c σ H ρ))
    (k : ∀ d ρ1 v H1, Step K c σ H ρ H1 ρ1 → Rep K (OO c σ ρ1) H1 v d → wpR (g d ρ1) (PF K c σ H ρ Dn) (ES K C W c σ H ρ) → Q v H1) : tD K C W f σ H Q :=
  ⟨c, ρ, er, wpR_mono (wpR_bind.mp h) (fun d ρ1 q v H1 s r => k d ρ1 v H1 s r q) fun _ _ _ x => x.ex⟩
theorem sF {f : En → Res (List D)} {g : List D → En → Res Fl} {Q : VK} (er : ER K c σ H ρ) (h : wpR ((f ρ).bind g) (PF K c σ H ρ Dn) (ES K C W c σ H ρ))
    (k : ∀ ds ρ1 a vs H1, Step K c σ H ρ H1 ρ1 → H a = none → H1 a = some (.lst vs) → ER K (c.more a) σ H1 ρ1 → Reps K (OO (c.more a) σ ρ1) H1 vs ds → wpR (g ds ρ1) (PF K c σ H ρ Dn) (ES K C W c σ H ρ) → Q (.ref a) H1) : tF K C W f σ H Q :=
  ⟨c, ρ, er, wpR_mono (wpR_bind.mp h) (fun d ρ1 q a vs H1 s hn he em r => k d ρ1 a vs H1 s hn he em r q) fun _ _ _ x => x.ex⟩
theorem sT {f : En → Res Bool} {g : Bool → En → Res Fl} {Q : Bool → Hp → Prop} (er : ER K c σ H ρ) (h : wpR ((f ρ).bind g) (PF K c σ H ρ Dn) (ES K C W c σ H ρ))
    (k : ∀ b ρ1 H1, Step K c σ H ρ H1 ρ1 → wpR (g b ρ1) (PF K c σ H ρ Dn) (ES K C W c σ H ρ) → Q b H1) : tT K C W f σ H Q :=
  ⟨c, ρ, er, wpR_mono (wpR_bind.mp h) (fun d ρ1 q H1 s => k d ρ1 H1 s q) fun _ _ _ x => x.ex⟩
/-- a slot becomes a list of one's own: the working list p -/
theorem ER.setOw {i : Nat} {a : Addr} {vs : List V} {ds : List D} (er : ER K (c.more a) σ H ρ) (z : ¬ c.Z a) (he : H a = some (.lst vs)) (r : Reps K (OO (c.more a) σ ρ) H vs ds) (hi : i < ρ.length) :
    ER K c (σ.set i (some (.ref a))) H (ρ.set i (.ow ds)) ∧ ∀ b, own (σ.set i (some (.ref a))) (ρ.set i (.ow ds)) b → own σ ρ b ∨ b = a := by
  have hiσ : i < σ.length := by rw [er.len]; exact hi
  have ho : ¬ own σ ρ a := er.zo a (.inr rfl)
  have at_ : ∀ j b, ownAt (σ.set i (some (.ref a))) (ρ.set i (.ow ds)) j b → (j = i ∧ b = a) ∨ (j ≠ i ∧ ownAt σ ρ j b) := fun j b ⟨⟨s, es, z1, z2⟩, z3⟩ => by
    by_cases hj : j = i
    · subst hj
      rw [List.getElem?_set_self hiσ] at z3; cases z3
      exact .inl ⟨rfl, rfl⟩
    · rw [List.getElem?_set_ne (Ne.symm hj)] at z1 z3
      exact .inr ⟨hj, ⟨s, es, z1, z2⟩, z3⟩
  have le : ∀ b, own (σ.set i (some (.ref a))) (ρ.set i (.ow ds)) b → own σ ρ b ∨ b = a := fun b ⟨j, z⟩ => (at_ j b z).elim (fun q => .inr q.2) fun q => .inl ⟨j, q.2⟩
  have le2 : ∀ b, OO c (σ.set i (some (.ref a))) (ρ.set i (.ow ds)) b → OO (c.more a) σ ρ b := fun b z => by
    rcases z with z | z | z
    · exact .inl z
    · exact .inr (.inl (.inl z))
    · exact (le b z).elim (fun y => .inr (.inr y)) fun y => .inr (.inl (.inr y))
  refine ⟨⟨by rw [List.length_set, List.length_set]; exact er.len, fun j e hj => ?_, fun j s es hj hs' => ?_, fun j k b hj hk => ?_, fun j b es hj hb => ?_, fun j b es hj hb => ?_, er.good, er.bt, er.pb, fun b z => er.zt b (.inl z), fun b z => er.z0 b (.inl z), fun b z1 y => ?_⟩, le⟩
  · by_cases e1 : j = i
    · subst e1
      rw [List.getElem?_set_self hi] at hj; cases hj
    · rw [List.getElem?_set_ne (Ne.symm e1)] at hj
      obtain ⟨w, z1, z2⟩ := er.fz j e hj
      exact ⟨w, by rw [List.getElem?_set_ne (Ne.symm e1)]; exact z1, z2.m fun b z _ => le2 b z⟩
  · by_cases e1 : j = i
    · subst e1
      rw [List.getElem?_set_self hi] at hj; cases hj; cases hs'
      exact ⟨a, vs, List.getElem?_set_self hiσ, he, r.m fun b z _ => le2 b z⟩
    · rw [List.getElem?_set_ne (Ne.symm e1)] at hj
      obtain ⟨b, us, z1, z2, z3⟩ := er.ow j s es hj hs'
      exact ⟨b, us, by rw [List.getElem?_set_ne (Ne.symm e1)]; exact z1, z2, z3.m fun b z _ => le2 b z⟩
  · rcases at_ j b hj with ⟨h1, h2⟩ | ⟨h1, h2⟩
    · rcases at_ k b hk with ⟨h3, h4⟩ | ⟨h3, h4⟩
      · rw [h1, h3]
      · exact (ho ⟨k, h2 ▸ h4⟩).elim
    · rcases at_ k b hk with ⟨h3, h4⟩ | ⟨h3, h4⟩
      · exact (ho ⟨j, h4 ▸ h2⟩).elim
      · exact er.one j k b h2 h4
  · by_cases e1 : j = i
    · subst e1
      rw [List.getElem?_set_self hiσ] at hb; cases hb
      exact er.z0 a (.inr rfl)
    · rw [List.getElem?_set_ne (Ne.symm e1)] at hj hb
      exact er.mine j b es hj hb
  · by_cases e1 : j = i
    · subst e1
      rw [List.getElem?_set_self hi] at hj; cases hj
    · rw [List.getElem?_set_ne (Ne.symm e1)] at hj hb
      exact er.lent j b es hj hb
  · rcases le b y with y | y
    · exact er.zo b (.inl z1) y
    · exact z (y ▸ z1)
end

/-! #### the statements -/
section
variable {X : Cx} {C : Ck} {W : L2.WX} {pos : Pos} {K : PySem.W.Frag}
@[simp] def sNx : En → Res Fl := fun ρ => .ok .nx ρ
theorem s_nil : PSs X [] (tS X.K C W sNx) := pss_nil.imp fun Dn σ H ⟨c, ρ, er, q⟩ => q σ H (.refl er)
theorem s_pass : PS X (.Pass pos) (tS X.K C W sNx) := ps_pass.imp fun Dn σ H ⟨c, ρ, er, q⟩ => q σ H (.refl er)
theorem s_doc {x j pos'} : PS X (.Expr (.Constant (.str x) j pos) pos') (tS X.K C W sNx) := ps_doc.imp fun Dn σ H ⟨c, ρ, er, q⟩ => q σ H (.refl er)
def sBk : En → Res Fl := fun ρ => .ok .bk ρ
def sCt : En → Res Fl := fun ρ => .ok .ct ρ
theorem s_break : PS X (.Break pos) (tS X.K C W sBk) := ps_break.imp fun Dn σ H ⟨c, ρ, er, q⟩ => q σ H (.refl er)
theorem s_continue : PS X (.Continue pos) (tS X.K C W sCt) := ps_continue.imp fun Dn σ H ⟨c, ρ, er, q⟩ => q σ H (.refl er)
@[simp] def sSeq (f g : En → Res Fl) : En → Res Fl := fun ρ => (f ρ).bind fun fl ρ' => match fl with
  | .nx => g ρ'
  | x => .ok x ρ'
theorem seq_imp {f g : En → Res Fl} : ∀ Dn σ H, tS K C W (sSeq f g) Dn σ H → tSeq (tS K C W f) (tS K C W g) Dn σ H := fun Dn σ H ⟨c, ρ, er, q⟩ => by
  refine ⟨c, ρ, er, wpR_mono (wpR_bind.mp q) (fun fl ρ1 q => ?_) fun _ _ _ z => z⟩
  cases fl with
  | nx => exact fun σ1 H1 s => tS_at s q
  | _ => exact q
theorem s_cons {st : Stmt} {rest : List Stmt} {f g : En → Res Fl} (a : PS X st (tS X.K C W f)) (b : PSs X rest (tS X.K C W g)) : PSs X (st :: rest) (tS X.K C W (sSeq f g)) := (pss_cons a b).imp seq_imp
theorem s_one {st : Stmt} {f : En → Res Fl} (a : PS X st (tS X.K C W f)) : PSs X [st] (tS X.K C W f) := pss_one a
@[simp] def sNo : En → Res Fl := fun _ => .no
theorem s_never {st : Stmt} : PS X st (tS X.K C W sNo) := ps_never.imp fun Dn σ H ⟨c, ρ, er, q⟩ => q
theorem ss_never {st : List Stmt} : PSs X st (tS X.K C W sNo) := pss_never.imp fun Dn σ H ⟨c, ρ, er, q⟩ => q
@[simp] def sEx (f : En → Res D) : En → Res Fl := fun ρ => (f ρ).bind fun _ ρ' => .ok .nx ρ'
theorem s_expr {e : Expr} {f : En → Res D} (h : PE X e (tD X.K C W f)) (hs : swapsWith e none pos.line X.env = pure false := by rfl) : PS X (.Expr e pos) (tS X.K C W (sEx f)) := (ps_expr h hs).imp fun Dn σ H ⟨c, ρ, er, q⟩ => sE er q fun d ρ1 v H1 s r q => q σ H1 s.st
@[simp] def sRet (f : En → Res D) : En → Res Fl := fun ρ => (f ρ).bind fun d ρ' => .ok (.rt d) ρ'
theorem s_ret {e : Expr} {f : En → Res D} (h : PE X e (tD X.K C W f)) : PS X (.Return (some e) pos) (tS X.K C W (sRet f)) := (ps_ret h).imp fun Dn σ H ⟨c, ρ, er, q⟩ => sE er q fun d ρ1 v H1 s r q => q v σ H1 s.st r
@[simp] def sRetN : En → Res Fl := fun ρ => .ok (.rt .non) ρ
theorem s_retN : PS X (.Return none pos) (tS X.K C W sRetN) := ps_retN.imp fun Dn σ H ⟨c, ρ, er, q⟩ => q .non σ H (.refl er) .non
@[simp] def sRetF (f : En → Res (List D)) : En → Res Fl := fun ρ => (f ρ).bind fun d ρ' => .ok (.rf d) ρ'
theorem s_retF {e : Expr} {f : En → Res (List D)} (h : PE X e (tF X.K C W f)) : PS X (.Return (some e) pos) (tS X.K C W (sRetF f)) := (ps_ret h).imp fun Dn σ H ⟨c, ρ, er, q⟩ => sF er q fun d ρ1 a vs H1 s hn he em r q => q a vs σ H1 s.st (er.good.free hn) he (r.m fun b z _ => by
  rcases z with (z | z) | z
  · exact .inl z
  · exact .inr (.inl (.inl z))
  · exact .inr (.inl (.inr z)))
/-- return of a list of one's own, by name -/
@[simp] def sRetO (i : Nat) : En → Res Fl := fun ρ => match ρ[i]? with
  | some (.ow ds) => .ok (.rf ds) (ρ.set i .no)
  | _ => .no
theorem ER.drop {c : Bx} {σ : Sg} {H : Hp} {ρ : En} {i : Nat} (er : ER K c σ H ρ) : ER K c σ H (ρ.set i .no) ∧ ∀ b, own σ (ρ.set i .no) b → own σ ρ b ∧ ∃ j, j ≠ i ∧ ownAt σ ρ j b := by
  have at_ : ∀ j b, ownAt σ (ρ.set i .no) j b → j ≠ i ∧ ownAt σ ρ j b := fun j b ⟨⟨s, es, z1, z2⟩, z3⟩ => by
    by_cases hj : j = i
    · subst hj
      by_cases hl : j < ρ.length
      · rw [List.getElem?_set_self hl] at z1; cases z1; cases z2
      · rw [List.getElem?_eq_none (by rw [List.length_set]; omega)] at z1; cases z1
    · rw [List.getElem?_set_ne (Ne.symm hj)] at z1
      exact ⟨hj, ⟨s, es, z1, z2⟩, z3⟩
  have le : ∀ b, own σ (ρ.set i .no) b → own σ ρ b := fun b ⟨j, z⟩ => ⟨j, (at_ j b z).2⟩
  have le2 : ∀ b, OO c σ (ρ.set i .no) b → OO c σ ρ b := fun b z => z.imp id (Or.imp id (le b))
  have ne : ∀ {j : Nat} {s : Sl}, (ρ.set i .no)[j]? = some s → s ≠ .no → j ≠ i ∧ ρ[j]? = some s := fun {j s} h n => by
    by_cases hj : j = i
    · subst hj
      by_cases hl : j < ρ.length
      · rw [List.getElem?_set_self hl] at h; cases h; exact absurd rfl n
      · rw [List.getElem?_eq_none (by rw [List.length_set]; omega)] at h; cases h
    · rw [List.getElem?_set_ne (Ne.symm hj)] at h
      exact ⟨hj, h⟩
  refine ⟨⟨by rw [List.length_set]; exact er.len, fun j d h => ?_, fun j s es h h2 => ?_, fun j k b hj hk => er.one j k b (at_ j b hj).2 (at_ k b hk).2, fun j b es h hb => er.mine j b es (ne h (fun z => by cases z)).2 hb, fun j b es h hb => er.lent j b es (ne h (fun z => by cases z)).2 hb, er.good, er.bt, er.pb, er.zt, er.z0, fun b z y => er.zo b z (le b y)⟩, fun b ⟨j, z⟩ => ⟨le b ⟨j, z⟩, j, at_ j b z⟩⟩
  · obtain ⟨v, q1, q2⟩ := er.fz j d (ne h (fun z => by cases z)).2
    exact ⟨v, q1, q2.m fun b z _ => le2 b z⟩
  · obtain ⟨a, us, q1, q2, q3⟩ := er.ow j s es (ne h (fun z => by rw [z] at h2; cases h2)).2 h2
    exact ⟨a, us, q1, q2, q3.m fun b z _ => le2 b z⟩
theorem reto_imp {i : Nat} : ∀ Dn σ H, tS K C W (sRetO i) Dn σ H → tRet (tVar i) Dn σ H := fun Dn σ H ⟨c, ρ, er, q⟩ => by
  unfold sRetO at q
  split at q
  · rename_i ds h
    obtain ⟨a, vs, q1, q2, q3⟩ := er.ow i _ ds h rfl
    obtain ⟨d1, d2⟩ := er.drop (i := i)
    refine ⟨_, q1, q a vs σ H ⟨Good.refl, fun b z => .inl (d2 b z).1, d1⟩ (er.mine i a ds h q1) q2 (q3.m fun b z _ => ?_)⟩
    rcases z with (z | z) | z
    · exact .inl z
    · exact .inr (.inl z)
    · exact .inr (.inr ⟨i, ⟨_, ds, h, rfl⟩, z ▸ q1⟩)
  · exact q.elim
theorem s_retO (i : Nat) {x : Str} {p : Pos} (hN : X.N[i]? = some x := by rfl) (hv : Vis X.env.scope x := by first | exact Or.inl rfl | exact Or.inr (Or.inl rfl) | exact Or.inr (Or.inr rfl)) (hd : (x == ("__debug__" : Str)) = false := by decide)
    (hcd : (x == ("__classdict__" : Str)) = false := by decide) : PS X (.Return (some (.Name x p)) pos) (tS X.K C W (sRetO i)) := (ps_ret (pe_var hN hv hd hcd)).imp reto_imp
@[simp] def sIf (t : En → Res Bool) (f g : En → Res Fl) : En → Res Fl := fun ρ => (t ρ).bind fun b ρ' => if b = true then f ρ' else g ρ'
theorem if_imp {t : En → Res Bool} {f g : En → Res Fl} : ∀ Dn σ H, tS K C W (sIf t f g) Dn σ H → tIfS (tT K C W t) (tS K C W f) (tS K C W g) Dn σ H := fun Dn σ H ⟨c, ρ, er, q⟩ => sT er q fun b ρ1 H1 s q => by
  cases b with
  | true =>
    rw [if_pos rfl] at q ⊢
    exact tS_at s.st q
  | false =>
    rw [if_neg (by decide)] at q ⊢
    exact tS_at s.st q
theorem s_if {t : Expr} {a b : List Stmt} {ft : En → Res Bool} {f g : En → Res Fl} (ht : PT X t (tT X.K C W ft)) (ha : PSs X a (tS X.K C W f)) (hb : PSs X b (tS X.K C W g)) : PS X (.If t a b pos) (tS X.K C W (sIf ft f g)) := (ps_if ht ha hb).imp if_imp
/-- target = value -/
@[simp] def sAs (f : En → Res D) (g : D → En → Option En) : En → Res Fl := fun ρ => (f ρ).bind fun d ρ' => optR (g d ρ') fun ρ2 => .ok .nx ρ2
theorem as_imp {f : En → Res D} {gD : D → En → Option En} {ts : List Nat} {g : TG} (tg : TgD K gD ts g) : ∀ Dn σ H, tS K C W (sAs f gD) Dn σ H → tAsg (tD K C W f) g Dn σ H := fun Dn σ H ⟨c, ρ, er, q⟩ => sE er q fun d ρ1 v H1 s r q => by
  obtain ⟨ρ2, h, q⟩ := wpR_opt q
  exact tg c σ H1 ρ1 ρ2 v d _ s.er r h fun σ2 e2 l2 _ _ => q σ2 H1 ⟨s.good, fun b z => .inl (s.le b (l2 b z)), e2⟩
theorem s_set (i : Nat) {x : Str} {e : Expr} {pos' : Pos} {f : En → Res D} (he : PE X e (tD X.K C W f)) (hN : X.N.Nodup) (hi : X.N[i]? = some x := by rfl) (hx : Loc X.env.scope x := by first | exact Or.inl rfl | exact Or.inr rfl) (hs : swapsWith e (some (.Name x pos')) pos.line X.env = pure false := by rfl)
    (hf : X.fn x = true ∨ X.env.scope.names.lookup x = some .local := by first | exact .inl rfl | exact .inr rfl) : PS X (.Assign [.Name x pos'] e pos) (tS X.K C W (sAs f (gN i))) := (ps_set hN hi hx he hs hf).imp (as_imp tg_name)
theorem s_asg {tgt e : Expr} {f : En → Res D} {gD : D → En → Option En} {ts : List Nat} {g : TG} (he : PE X e (tD X.K C W f)) (hg : PG X tgt g) (tg : TgD X.K gD ts g) (hs : swapsWithSole [tgt] e pos.line X.env = pure false := by rfl) (hw : swappedStores [tgt] e X.env = pure none := by rfl)
    (h1 : (assignEach [tgt] X.env).map (·.2) = [assign tgt X.env] := by rfl) : PS X (.Assign [tgt] e pos) (tS X.K C W (sAs f gD)) := (ps_asg he hg hs hw h1).imp (as_imp tg)
/-- name = a new list, that the def will write -/
@[simp] def sAsO (f : En → Res (List D)) (i : Nat) : En → Res Fl := fun ρ => (f ρ).bind fun ds ρ' => if i < ρ'.length then .ok .nx (ρ'.set i (.ow ds)) else .no
theorem aso_imp {f : En → Res (List D)} {i : Nat} : ∀ Dn σ H, tS K C W (sAsO f i) Dn σ H → tAsg (tF K C W f) (gName i) Dn σ H := fun Dn σ H ⟨c, ρ, er, q⟩ => sF er q fun ds ρ1 a vs H1 s hn he em r q => by
  obtain ⟨hi, q⟩ := wpR_ite q
  have nz : ¬ c.Z a := fun z => er.zt a z hn
  obtain ⟨e1, e2⟩ := em.setOw nz he r hi
  exact q _ H1 ⟨s.good, fun b z => (e2 b z).elim (fun y => .inl (s.le b y)) fun y => .inr (y ▸ hn), e1⟩
theorem s_setO (i : Nat) {x : Str} {e : Expr} {pos' : Pos} {f : En → Res (List D)} (he : PE X e (tF X.K C W f)) (hN : X.N.Nodup) (hi : X.N[i]? = some x := by rfl) (hx : Loc X.env.scope x := by first | exact Or.inl rfl | exact Or.inr rfl) (hs : swapsWith e (some (.Name x pos')) pos.line X.env = pure false := by rfl)
    (hf : X.fn x = true ∨ X.env.scope.names.lookup x = some .local := by first | exact .inl rfl | exact .inr rfl) : PS X (.Assign [.Name x pos'] e pos) (tS X.K C W (sAsO f i)) := (ps_set hN hi hx he hs hf).imp aso_imp
end
end DL

namespace DL
open PySem PySem.Spec PyProof.Rows L2
section
variable {K : PySem.W.Frag} {C : Ck} {W : L2.WX} {c : Bx} {σ σ1 : Sg} {H H1 : Hp} {ρ ρ1 : En}
theorem StS.marks (s : StS K c σ H ρ σ1 H1 ρ1) : ∀ b, OO c σ1 ρ1 b → OO c σ ρ b ∨ H b = none := fun b z => by
  rcases z with z | z | z
  · exact .inl (.inl z)
  · exact .inl (.inr (.inl z))
  · exact (s.le b z).imp (fun y => .inr (.inr y)) id
theorem StS.reps (s : StS K c σ H ρ σ1 H1 ρ1) {v : List V} {d : List D} (r : Reps K (OO c σ ρ) H v d) : Reps K (OO c σ1 ρ1) H1 v d := by
  have r1 : Reps K (fun b => OO c σ ρ b ∨ OO c σ1 ρ1 b) H v d := r.m fun b z hb => z.elim id fun z => (s.marks b z).elim id fun n => absurd n hb
  exact (r1.g (s.good.mono fun b z => .inl (.inr (.inr z)))).m fun b z _ => .inr z
theorem StS.rep (s : StS K c σ H ρ σ1 H1 ρ1) {v : V} {d : D} (r : Rep K (OO c σ ρ) H v d) : Rep K (OO c σ1 ρ1) H1 v d := by
  have h := s.reps (.cons r .nil)
  cases h with | cons a _ => exact a
/-- the list of slot i is written -/
theorem ER.put {i : Nat} {s : Sl} {ds es : List D} {vs' : List V} {a : Addr} (er : ER K c σ H ρ) (h : ρ[i]? = some s) (ho : s.own = some ds) (ha : σ[i]? = some (some (.ref a))) (r : Reps K (OO c σ ρ) H vs' es) {s' : Sl} (hs : (∃ es0, s = .ow es0 ∧ s' = .ow es) ∨ ∃ es0, s = .pw es0 ∧ s' = .pw es) :
    Step K c σ H ρ (upd H a (.lst vs')) (ρ.set i s') := by
  have hi : i < ρ.length := (List.getElem?_eq_some_iff.mp h).1
  have hs' : s'.own = some es := by rcases hs with ⟨_, _, rfl⟩ | ⟨_, _, rfl⟩ <;> rfl
  have ma : own σ ρ a := ⟨i, ⟨s, ds, h, ho⟩, ha⟩
  have at_ : ∀ j b, ownAt σ (ρ.set i s') j b → ownAt σ ρ j b := fun j b ⟨⟨t, ts, z1, z2⟩, z3⟩ => by
    by_cases hj : j = i
    · subst hj; exact ⟨⟨s, ds, h, ho⟩, z3⟩
    · rw [List.getElem?_set_ne (Ne.symm hj)] at z1
      exact ⟨⟨t, ts, z1, z2⟩, z3⟩
  have le : ∀ b, own σ (ρ.set i s') b → own σ ρ b := fun b ⟨j, z⟩ => ⟨j, at_ j b z⟩
  have le2 : ∀ b, OO c σ (ρ.set i s') b → OO c σ ρ b := fun b z => z.imp id (Or.imp id (le b))
  have g : Good (OO c σ ρ) H (upd H a (.lst vs')) := Good.write (.inr (.inr ma))
  have g1 : Good (own σ ρ) H (upd H a (.lst vs')) := Good.write ma
  have old : ∃ us, H a = some (.lst us) := by
    obtain ⟨b, us, y1, y2, _⟩ := er.ow i s ds h ho
    rw [ha] at y1; cases y1
    exact ⟨us, y2⟩
  refine ⟨g1, le, ⟨by rw [List.length_set]; exact er.len, fun j d hj => ?_, fun j t ts hj hts => ?_, fun j k b hj hk => er.one j k b (at_ j b hj) (at_ k b hk), fun j b ts hj hb => ?_, fun j b ts hj hb => ?_, ?_, er.bt, er.pb, fun b z => g.there b (er.zt b z), er.z0, fun b z y => er.zo b z (le b y)⟩⟩
  · by_cases e : j = i
    · subst e
      rw [List.getElem?_set_self hi] at hj; cases hj
      cases hs'
    · rw [List.getElem?_set_ne (Ne.symm e)] at hj
      obtain ⟨v, y1, y2⟩ := er.fz j d hj
      exact ⟨v, y1, (y2.g g).m fun b z _ => le2 b z⟩
  · by_cases e : j = i
    · subst e
      rw [List.getElem?_set_self hi] at hj; cases hj
      rw [hs'] at hts; cases hts
      exact ⟨a, vs', ha, upd_same, (r.g g).m fun b z _ => le2 b z⟩
    · rw [List.getElem?_set_ne (Ne.symm e)] at hj
      obtain ⟨b, us, y1, y2, y3⟩ := er.ow j t ts hj hts
      have hne : b ≠ a := fun q => e (er.one j i a ⟨⟨t, ts, hj, hts⟩, q ▸ y1⟩ ⟨⟨s, ds, h, ho⟩, ha⟩)
      exact ⟨b, us, y1, by rw [upd_ne hne]; exact y2, (y3.g g).m fun b z _ => le2 b z⟩
  · by_cases e : j = i
    · subst e
      rw [List.getElem?_set_self hi] at hj; cases hj
      rcases hs with ⟨e0, rfl, _⟩ | ⟨_, _, q⟩
      · exact er.mine j b e0 h hb
      · cases q
    · rw [List.getElem?_set_ne (Ne.symm e)] at hj
      exact er.mine j b ts hj hb
  · by_cases e : j = i
    · subst e
      rw [List.getElem?_set_self hi] at hj; cases hj
      rcases hs with ⟨_, _, q⟩ | ⟨e0, rfl, _⟩
      · cases q
      · exact er.lent j b e0 h hb
    · rw [List.getElem?_set_ne (Ne.symm e)] at hj
      exact er.lent j b ts hj hb
  · -- what stood at the start
    rcases hs with ⟨e0, rfl, _⟩ | ⟨e0, rfl, _⟩
    · have hn := er.mine i a e0 h ha
      exact ⟨fun b o q n => by rw [upd_ne fun z => by rw [z, hn] at q; cases q]; exact er.good.keep b o q n, fun b q => g.there b (er.good.there b q)⟩
    · have hp := er.lent i a e0 h ha
      exact ⟨fun b o q n => by rw [upd_ne fun z => n (by rw [z]; exact hp)]; exact er.good.keep b o q n, fun b q => g.there b (er.good.there b q)⟩
end
@[simp] def Sl.put (s : Sl) (es : List D) : Sl := match s with
  | .ow _ => .ow es
  | .pw _ => .pw es
  | x => x
theorem put_or {s : Sl} {ds es : List D} (h : s.own = some ds) : (∃ es0, s = .ow es0 ∧ s.put es = .ow es) ∨ ∃ es0, s = .pw es0 ∧ s.put es = .pw es := by
  cases s with
  | ow e => exact .inl ⟨e, rfl, rfl⟩
  | pw e => exact .inr ⟨e, rfl, rfl⟩
  | _ => cases h
/-- the list that slot i holds, to be written -/
@[simp] def ownS (ρ : En) (i : Nat) : Option (Sl × List D) := match ρ[i]? with
  | some s => match s.own with
    | some ds => some (s, ds)
    | none => none
  | none => none
theorem ownS_some {ρ : En} {i : Nat} {s : Sl} {ds : List D} (h : ownS ρ i = some (s, ds)) : ρ[i]? = some s ∧ s.own = some ds := by
  unfold ownS at h
  cases h1 : ρ[i]? with
  | none => rw [h1] at h; cases h
  | some t =>
    rw [h1] at h
    cases h2 : t.own with
    | none => simp only [h2] at h; cases h
    | some es =>
      simp only [h2] at h
      cases h
      exact ⟨rfl, h2⟩
section
variable {X : Cx} {C : Ck} {W : L2.WX} {pos : Pos} {K : PySem.W.Frag}
theorem ER.ownA {K : PySem.W.Frag} {c : Bx} {σ : Sg} {H : Hp} {ρ : En} (er : ER K c σ H ρ) {i : Nat} {s : Sl} {ds : List D} (h : ownS ρ i = some (s, ds)) : ∃ a vs, σ[i]? = some (some (.ref a)) ∧ H a = some (.lst vs) ∧ Reps K (OO c σ ρ) H vs ds := by
  obtain ⟨h1, h2⟩ := ownS_some h
  exact er.ow i s ds h1 h2
/-- xs.append(e), xs a list of one's own -/
@[simp] def dApp (i : Nat) (f : En → Res D) : En → Res D := fun ρ => optR (ownS ρ i) fun _ => (f ρ).bind fun d ρ1 => optR (ownS ρ1 i) fun q => if q.2.length < LIM then .ok .non (ρ1.set i (q.1.put (q.2 ++ [d]))) else .no
theorem app_imp {K : PySem.W.Frag} {i : Nat} {f : En → Res D} : ∀ σ H Q, tD K C W (dApp i f) σ H Q → tBM K "list" rAppend (tVar i) (tCons (tD K C W f) tNil) σ H Q := fun σ H Q ⟨c, ρ, er, q⟩ => by
  obtain ⟨⟨s0, d0⟩, h0, q⟩ := wpR_opt q
  obtain ⟨a, xs, q1, q2, q3⟩ := er.ownA h0
  refine ⟨_, q1, .inl ⟨rfl, xs, .inl (.inl q2)⟩, ?_⟩
  refine tD_bind er q fun d ρ1 v H1 s1 r1 q => ?_
  obtain ⟨⟨s', ds⟩, h1, q⟩ := wpR_opt q
  obtain ⟨hl, q⟩ := wpR_ite q
  obtain ⟨b, ys, y1, y2, y3⟩ := s1.er.ownA h1
  rw [q1] at y1; cases y1
  obtain ⟨g1, g2⟩ := ownS_some h1
  have st := s1.er.put g1 g2 q1 (y3.append (.cons r1 .nil)) (put_or g2)
  refine ⟨a, ys, v, rfl, rfl, y2, by rw [y3.length, lim_eq]; exact hl, ?_⟩
  exact q _ _ (s1.trans st) .non
theorem d_app (i : Nat) {x : Str} {e : Expr} {p apos cpos : Pos} {f : En → Res D} (he : PE X e (tD X.K C W f)) (hN : X.N[i]? = some x := by rfl) (hv : Vis X.env.scope x := by first | exact Or.inl rfl | exact Or.inr (Or.inl rfl) | exact Or.inr (Or.inr rfl)) (hd : (x == ("__debug__" : Str)) = false := by decide)
    (hcd : (x == ("__classdict__" : Str)) = false := by decide) (hbase : attributeBase (.Name x p) "append" X.env (eval (.Name x p) X.env) = eval (.Name x p) X.env := by rfl)
    (hfew : ((backTo cpos (starEach (e :: []) X.env)).all (fun x => !x.1) && (backToKw cpos (keywordEach [] X.env)).all (fun x => x.1.isSome)
      && decide ((e :: ([] : List Expr)).length + ([] : List Keyword).length + (if ([] : List Keyword).isEmpty then 0 else 1) < 30)) = true := by rfl)
    (hline : (apos.endLine == cpos.line) = true := by rfl) (hs : starEach (e :: []) X.env = (false, eval e X.env) :: starEach [] X.env := by rfl) (hplain : (backTo cpos (starEach [] X.env)).any (·.1) = false := by rfl) :
    PE X (.Call (.Attribute (.Name x p) "append" apos) [e] [] cpos) (tD X.K C W (dApp i f)) :=
  (pe_bm (T := "list") (id := "list.append") PySem.F.plainAttrs_list PySem.F.slot_list_append PySem.F.type_list_append mt_append (pe_var hN hv hd hcd) (pa_cons he pa_nil hs) hbase hfew hline hs hplain).imp app_imp
end
end DL

namespace DL
open PySem PySem.Spec PyProof.Rows L2
section
variable {X : Cx} {C : Ck} {W : L2.WX} {pos : Pos} {K : PySem.W.Frag}
/-! ### looks at a list that is written later -/
@[simp] def dIxB (i : Nat) (f : En → Res D) : En → Res D := fun ρ => optR (ownS ρ i) fun _ => (f ρ).bind fun d ρ1 => match d with
  | .int k => optR (ownS ρ1 i) fun q => optR (atI q.2 k) fun z => .ok z ρ1
  | _ => .no
theorem ixB_imp {i : Nat} {f : En → Res D} : ∀ σ H Q, tD K C W (dIxB i f) σ H Q → tOp (rIx K) (tVar i) (tD K C W f) σ H Q := fun σ H Q ⟨c, ρ, er, q⟩ => by
  obtain ⟨⟨s0, d0⟩, h0, q⟩ := wpR_opt q
  obtain ⟨a, xs, q1, q2, q3⟩ := er.ownA h0
  refine ⟨_, q1, ?_⟩
  refine tD_bind er q fun d ρ1 v H1 s1 r1 q => ?_
  split at q
  · rename_i k
    obtain ⟨⟨s', ds⟩, h1, q⟩ := wpR_opt q
    obtain ⟨z, hz, q⟩ := wpR_opt q
    obtain ⟨b, ys, y1, y2, y3⟩ := s1.er.ownA h1
    rw [q1] at y1; cases y1
    obtain ⟨w, hw, rw'⟩ := y3.atI hz
    exact .inl ⟨a, ys, k, w, rfl, r1.intV, SqL.of y2, hw, q w H1 s1 rw'⟩
  · exact q.elim
theorem d_ixB (i : Nat) {x : Str} {p : Pos} {b : Expr} {f : En → Res D} (hb : PE X b (tD X.K C W f)) (hN : X.N[i]? = some x := by rfl) (hv : Vis X.env.scope x := by first | exact Or.inl rfl | exact Or.inr (Or.inl rfl) | exact Or.inr (Or.inr rfl)) (hd : (x == ("__debug__" : Str)) = false := by decide)
    (hcd : (x == ("__classdict__" : Str)) = false := by decide) (hs : PlainIx b := by intro _ _; rfl) : PE X (.Subscript (.Name x p) b pos) (tD X.K C W (dIxB i f)) := (pe_ix ix_seq (pe_var hN hv hd hcd) hb hs).imp ixB_imp
@[simp] def dLenB (i : Nat) : En → Res D := fun ρ => optR (ownS ρ i) fun q => .ok (.int q.2.length) ρ
theorem lenB_imp {i : Nat} : ∀ σ H Q, tD K C W (dLenB i) σ H Q → tCB (fun xs H Q => ∃ x n, xs = [x] ∧ LenV K x H n ∧ Q (.int n) H) (tCons (tVar i) tNil) σ H Q := fun σ H Q ⟨c, ρ, er, q⟩ => by
  obtain ⟨⟨s0, d0⟩, h0, q⟩ := wpR_opt q
  obtain ⟨a, xs, q1, q2, q3⟩ := er.ownA h0
  exact ⟨_, q1, _, _, rfl, .inl ⟨xs, SqL.of q2, rfl⟩, by rw [q3.length]; exact q _ H er.step (.int _)⟩
theorem d_lenB (i : Nat) {x : Str} {p p2 : Pos} (hm : X.mg "len" = none) (hN : X.N[i]? = some x := by rfl) (hvi : Vis X.env.scope x := by first | exact Or.inl rfl | exact Or.inr (Or.inl rfl) | exact Or.inr (Or.inr rfl)) (hd : (x == ("__debug__" : Str)) = false := by decide)
    (hcd : (x == ("__classdict__" : Str)) = false := by decide) (hg : Gl X "len" := by rfl) (hs : starEach [.Name x p2] X.env = [(false, eval (.Name x p2) X.env)] := by rfl) (he : starEach (.Name x p2 :: []) X.env = (false, eval (.Name x p2) X.env) :: starEach [] X.env := by rfl) (hpl : (backTo pos (starEach [] X.env)).any (·.1) = false := by rfl) :
    PE X (.Call (.Name "len" p) [.Name x p2] [] pos) (tD X.K C W (dLenB i)) := (pe_callB call_len hg hm boot_len (pa_cons (pe_var hN hvi hd hcd) pa_nil he) (by decide) (by decide) he hpl).imp lenB_imp
@[simp] def dSlB (i : Nat) (fl fh : En → Res (Option Int)) : En → Res (List D) := fun ρ => optR (ownS ρ i) fun _ => (fl ρ).bind fun lo ρ2 => (fh ρ2).bind fun hi ρ3 => optR (ownS ρ3 i) fun q => .ok (cutL q.2 lo hi) ρ3
theorem f_slB (i : Nat) {x : Str} {p : Pos} {lo hi : Option Expr} {p2 : Pos} {fl fh : En → Res (Option Int)} (hl : PO X lo (tPt X.K C W fl)) (hh : PO X hi (tPt X.K C W fh)) (hN : X.N[i]? = some x := by rfl) (hv : Vis X.env.scope x := by first | exact Or.inl rfl | exact Or.inr (Or.inl rfl) | exact Or.inr (Or.inr rfl)) (hd : (x == ("__debug__" : Str)) = false := by decide)
    (hcd : (x == ("__classdict__" : Str)) = false := by decide) : PE X (.Subscript (.Name x p) (.Slice lo hi none p2) pos) (tF X.K C W (dSlB i fl fh)) :=
  (pe_slice sl_list (pe_var hN hv hd hcd) hl hh).imp fun σ H Q ⟨c, ρ, er, q⟩ => by
    obtain ⟨⟨s0, d0⟩, h0, q⟩ := wpR_opt q
    obtain ⟨a, xs, q1, q2, q3⟩ := er.ownA h0
    refine ⟨_, q1, ?_⟩
    refine tPt_bind er q fun l ρ2 H2 s2 q => ?_
    refine tPt_bind s2.er (wpR_after s2 q fun _ _ z => z) fun h ρ3 H3 s3 q => ?_
    obtain ⟨⟨s', ds⟩, h1, q⟩ := wpR_opt q
    obtain ⟨b, ys, y1, y2, y3⟩ := s3.er.ownA h1
    rw [q1] at y1; cases y1
    have s := s2.trans s3
    exact ⟨a, ys, rfl, SqL.of y2, fun p hp => q p _ _ (s.trans (s3.er.grown (grow_upd hp))) (s.good.free hp) upd_same (s3.er.more hp) ((fresh_reps hp (y3.cut _ _)).m fun _ z _ => more_le z)⟩
end

/-! ### targets that write -/
def TgS (K : PySem.W.Frag) (gD : D → En → Option En) (g : TG) : Prop := ∀ (c : Bx) (σ : Sg) (H : Hp) (ρ ρ' : En) (v : V) (d : D) (Q : Sg → Hp → Prop), ER K c σ H ρ → Rep K (OO c σ ρ) H v d → gD d ρ = some ρ' →
  (∀ σ' H', StS K c σ H ρ σ' H' ρ' → Q σ' H') → g v σ H Q
def TgsS (K : PySem.W.Frag) (gD : List D → En → Option En) (g : TGs) : Prop := ∀ (c : Bx) (σ : Sg) (H : Hp) (ρ ρ' : En) (vs : List V) (ds : List D) (Q : Sg → Hp → Prop), ER K c σ H ρ → Reps K (OO c σ ρ) H vs ds → gD ds ρ = some ρ' →
  (∀ σ' H', StS K c σ H ρ σ' H' ρ' → Q σ' H') → g vs σ H Q
theorem TgD.s {K : PySem.W.Frag} {gD : D → En → Option En} {ts : List Nat} {g : TG} (t : TgD K gD ts g) : TgS K gD g := fun c σ H ρ ρ' v d Q er r h q => t c σ H ρ ρ' v d Q er r h fun σ' e l _ _ => q σ' H ⟨Good.refl, fun a z => .inl (l a z), e⟩
theorem tss_nil {K : PySem.W.Frag} : TgsS K gs0 gNil := fun c σ H ρ ρ' vs ds Q er r h q => tgs_nil c σ H ρ ρ' vs ds Q er r h fun σ' e l _ _ => q σ' H ⟨Good.refl, fun a z => .inl (l a z), e⟩
theorem tss_cons {K : PySem.W.Frag} {g : D → En → Option En} {gs : List D → En → Option En} {t : TG} {u : TGs} (a : TgS K g t) (b : TgsS K gs u) : TgsS K (gsC g gs) (gCons t u) := fun c σ H ρ ρ' vs ds Q er r h q => by
  unfold gsC at h
  split at h
  · rename_i d ds
    rw [Option.bind_eq_some_iff] at h
    obtain ⟨ρ1, h1, h2⟩ := h
    cases r with | cons ra rb =>
    refine ⟨_, _, rfl, ?_⟩
    refine a c σ H ρ ρ1 _ _ _ er ra h1 fun σ1 H1 s1 => ?_
    exact b c σ1 H1 ρ1 ρ' _ _ Q s1.er (s1.reps rb) h2 fun σ2 H2 s2 => q σ2 H2 (s1.trans s2)
  · cases h
theorem ts_tup {K : PySem.W.Frag} {n : Nat} {gs : List D → En → Option En} {u : TGs} (b : TgsS K gs u) (hn : ∀ ds ρ ρ', gs ds ρ = some ρ' → ds.length = n) : TgS K (gT gs) (gTup K n u) := fun c σ H ρ ρ' v d Q er r h q => by
  unfold gT at h
  split at h
  · obtain ⟨a, xs, rfl, t, rs⟩ := r.tupV
    exact ⟨a, xs, rfl, t.sq, by rw [rs.length]; exact hn _ _ _ h, b c σ H ρ ρ' _ _ Q er rs h q⟩
  · cases h
/-- xs[k] = d, xs a list of one's own or lent -/
@[simp] def gSu (i : Nat) (f : En → Res D) : D → En → Option En := fun d ρ => match f ρ with
  | .ok (.int k) ρ1 => (ownS ρ1 i).bind fun q => (ixN q.2.length k).bind fun j => if (ownS ρ i).isSome then some (ρ1.set i (q.1.put (q.2.set j d))) else none
  | _ => none
theorem Reps.set' {K : PySem.W.Frag} {O : Addr → Prop} {H : Hp} {vs : List V} {ds : List D} {v : V} {d : D} (r : Reps K O H vs ds) (rv : Rep K O H v d) (j : Nat) : Reps K O H (vs.set j v) (ds.set j d) := Reps.set j r rv
section
variable {X : Cx} {C : Ck} {W : L2.WX} {pos : Pos} {K : PySem.W.Frag}
theorem ts_sub {i : Nat} {f : En → Res D} : TgS K (gSu i f) (L2.gSub (tVar i) (tD K C W f) rSetL) := fun c σ H ρ ρ' v d Q er r h q => by
  unfold gSu at h
  split at h
  · rename_i k ρ1 hf
    rw [Option.bind_eq_some_iff] at h
    obtain ⟨⟨s1, ds⟩, h1, h⟩ := h
    rw [Option.bind_eq_some_iff] at h
    obtain ⟨j, hj, h⟩ := h
    split at h
    · rename_i h0
      cases h
      obtain ⟨⟨s0, d0⟩, h0⟩ := Option.isSome_iff_exists.mp h0
      obtain ⟨a, xs, q1, q2, q3⟩ := er.ownA h0
      refine ⟨_, q1, c, ρ, er, ?_⟩
      rw [hf]
      intro w H1 st rw'
      obtain ⟨b, ys, y1, y2, y3⟩ := st.er.ownA h1
      rw [q1] at y1; cases y1
      obtain ⟨g1, g2⟩ := ownS_some h1
      refine ⟨a, ys, k, j, rfl, rw'.intV, y2, by rw [y3.length]; exact hj, ?_⟩
      have st2 := st.er.put g1 g2 q1 (y3.set' (st.rep r) j) (put_or g2)
      exact q _ _ (st.trans st2).st
    · cases h
  · exact absurd h (by simp)
theorem g_sub (i : Nat) {x : Str} {p : Pos} {b : Expr} {f : En → Res D} (hb : PE X b (tD X.K C W f)) (hN : X.N[i]? = some x := by rfl) (hv : Vis X.env.scope x := by first | exact Or.inl rfl | exact Or.inr (Or.inl rfl) | exact Or.inr (Or.inr rfl)) (hd : (x == ("__debug__" : Str)) = false := by decide)
    (hcd : (x == ("__classdict__" : Str)) = false := by decide) 
    (ha : ∀ v, assign (.Subscript (.Name x p) b pos) X.env v = (do
      let ov ← holding [v] (eval (.Name x p) X.env)
      let iv ← holding [v, ov] (eval b X.env)
      standAt pos
      holding [v, ov, iv] (setItem ov iv v)
      release [v, ov, iv] []) := by intro _; rfl) : PG X (.Subscript (.Name x p) b pos) (L2.gSub (tVar i) (tD X.K C W f) rSetL) := pg_sub (pe_var hN hv hd hcd) hb set_list ha
theorem asS_imp {f : En → Res D} {gD : D → En → Option En} {g : TG} (tg : TgS K gD g) : ∀ Dn σ H, tS K C W (sAs f gD) Dn σ H → tAsg (tD K C W f) g Dn σ H := fun Dn σ H ⟨c, ρ, er, q⟩ => sE er q fun d ρ1 v H1 s r q => by
  obtain ⟨ρ2, h, q⟩ := wpR_opt q
  exact tg c σ H1 ρ1 ρ2 v d _ s.er r h fun σ2 H2 st => q σ2 H2 (s.st.trans st)
theorem s_asgS {tgt e : Expr} {f : En → Res D} {gD : D → En → Option En} {g : TG} (he : PE X e (tD X.K C W f)) (hg : PG X tgt g) (tg : TgS X.K gD g) (hs : swapsWithSole [tgt] e pos.line X.env = pure false := by rfl) (hw : swappedStores [tgt] e X.env = pure none := by rfl)
    (h1 : (assignEach [tgt] X.env).map (·.2) = [assign tgt X.env] := by rfl) : PS X (.Assign [tgt] e pos) (tS X.K C W (sAs f gD)) := (ps_asg he hg hs hw h1).imp (asS_imp tg)

/-! ### loops -/
def sLoop (g : D → En → Option En) (fb : En → Res Fl) : List D → En → Res Fl
  | [], ρ => .ok .nx ρ
  | x :: r, ρ => optR (g x ρ) fun ρ1 => (fb ρ1).bind fun fl ρ2 => match fl with
    | .nx => sLoop g fb r ρ2
    | .ct => sLoop g fb r ρ2
    | .bk => .ok .nx ρ2
    | .rt d => .ok (.rt d) ρ2
    | .rf d => .ok (.rf d) ρ2
@[simp] def sFor (fi : En → Res (List D)) (g : D → En → Option En) (fb : En → Res Fl) : En → Res Fl := fun ρ => (fi ρ).bind fun items ρ1 => sLoop g fb items ρ1
theorem for_imp {fi : En → Res (List D)} {gD : D → En → Option En} {g : TG} {ts : List Nat} {fb : En → Res Fl} (tg : TgD K gD ts g) : ∀ Dn σ H, tS K C W (sFor fi gD fb) Dn σ H → tFor (tI K C W fi) g (tS K C W fb) Dn σ H := fun Dn σ H ⟨c, ρ, er, q⟩ => by
  refine ⟨c, ρ, er, wpR_mono (wpR_bind.mp q) (fun items ρ1 q J H1 s wk => ?_) fun _ _ _ x => x.ex⟩
  refine ⟨fun i m σ' H' => m = items.length - i ∧ i ≤ items.length ∧ ∃ ρi, StS K c σ H1 ρ1 σ' H' ρi ∧ wpR (sLoop gD fb (items.drop i) ρi) (PF K c σ H ρ Dn) (ES K C W c σ H ρ), ⟨_, rfl, Nat.zero_le _, ρ1, .refl s.er, by rw [List.drop_zero]; exact q⟩, ?_⟩
  rintro i m σi Hi ⟨rfl, hi, ρi, si, qi⟩
  have wk := wk i Hi (OO c σi ρi) (fun b o e n => si.good.keep b o e fun z => n (.inr (.inr z))) si.marks fun b z => si.er.there z
  by_cases he : i = items.length
  · rw [he, List.drop_length] at qi
    exact .inl ⟨wk.1 he, qi σi Hi (s.st.trans si)⟩
  · have hlt : i < items.length := by omega
    obtain ⟨hgo, hy⟩ := wk.2 items[i] (List.getElem?_eq_getElem hlt)
    rw [List.drop_eq_getElem_cons hlt] at qi
    obtain ⟨ρ2, h2, qi⟩ := wpR_opt (show wpR (optR _ _) _ _ from qi)
    have qi := wpR_bind.mp qi
    refine .inr ⟨hgo, fun σ' H' => ∃ ρ', StS K c σ H1 ρ1 σ' H' ρ' ∧ wpR (sLoop gD fb (items.drop (i + 1)) ρ') (PF K c σ H ρ Dn) (ES K C W c σ H ρ), fun σ' H' ⟨ρ', a, b⟩ => ⟨items.length - (i + 1), by omega, rfl, hlt, ρ', a, b⟩, fun x H' y => ?_⟩
    obtain ⟨gr, rx⟩ := hy x H' y
    have e5 := si.er.grown gr
    refine tg c σi H' ρi ρ2 x _ _ e5.er rx h2 fun σ2 e2 l2 _ _ => ?_
    have s2 : StS K c σ H1 ρ1 σ2 H' ρ2 := si.trans (e5.st.trans ⟨Good.refl, fun a z => .inl (l2 a z), e2⟩)
    have s3 := s.st.trans s2
    refine ⟨c, ρ2, e2, wpR_mono qi (fun fl ρ3 z => ?_) fun _ _ _ z => z.after s3⟩
    cases fl with
    | nx => exact fun σ' H' s' => ⟨ρ3, s2.trans s', z⟩
    | ct => exact fun σ' H' s' => ⟨ρ3, s2.trans s', z⟩
    | bk => exact fun σ' H' s' => z σ' H' (s3.trans s')
    | rt d => exact PF.after (fl := .rt d) (Dn := Dn) s3 z
    | rf d => exact PF.after (fl := .rf d) (Dn := Dn) s3 z
theorem s_for {tgt iter : Expr} {body : List Stmt} {fi : En → Res (List D)} {gD : D → En → Option En} {g : TG} {ts : List Nat} {fb : En → Res Fl} (hp : PassesOwn (model X.prog X.w) X.A X.env X.xe) (hc : X.calm = true) (hi : PI X tgt iter (tI X.K C W fi)) (hg : PG X tgt g) (tg : TgD X.K gD ts g) (hb : PSs X body (tS X.K C W fb))
    (hs : ∀ x, foldedSetIterable iter X.env x = pure x := by intro _; rfl) : PS X (.For tgt iter body [] pos) (tS X.K C W (sFor fi gD fb)) := (ps_for hp hc hi hg hb hs).imp (for_imp tg)
def sWhile (t : En → Res Bool) (fb : En → Res Fl) : Nat → En → Res Fl
  | 0, _ => .no
  | n + 1, ρ => (t ρ).bind fun b ρ1 => if b = true then (fb ρ1).bind fun fl ρ2 => match fl with
    | .nx => sWhile t fb n ρ2
    | .ct => sWhile t fb n ρ2
    | .bk => .ok .nx ρ2
    | .rt d => .ok (.rt d) ρ2
    | .rf d => .ok (.rf d) ρ2
    else .ok .nx ρ1
theorem while_imp {t : En → Res Bool} {fb : En → Res Fl} (n : Nat) : ∀ Dn σ H, tS K C W (sWhile t fb n) Dn σ H → tWhile (tT K C W t) (tS K C W fb) Dn σ H := fun Dn σ H ⟨c, ρ, er, q⟩ => by
  refine ⟨fun m σ' H' => ∃ ρ', StS K c σ H ρ σ' H' ρ' ∧ wpR (sWhile t fb m ρ') (PF K c σ H ρ Dn) (ES K C W c σ H ρ), ⟨n, ρ, .refl er, q⟩, ?_⟩
  rintro m σ1 H1 ⟨ρ1, s1, q1⟩
  cases m with
  | zero => exact q1.elim
  | succ m =>
    refine ⟨c, ρ1, s1.er, wpR_mono (wpR_bind.mp q1) (fun b ρ2 q H2 s2 => ?_) fun _ _ _ x => (x.after s1).ex⟩
    have s12 := s1.trans s2.st
    cases b with
    | false =>
      rw [if_neg Bool.false_ne_true] at q
      show (if (false : Bool) = true then _ else _)
      rw [if_neg Bool.false_ne_true]
      exact q σ1 H2 s12
    | true =>
      rw [if_pos rfl] at q
      show (if (true : Bool) = true then _ else _)
      rw [if_pos rfl]
      refine ⟨fun σ' H' => ∃ ρ', StS K c σ H ρ σ' H' ρ' ∧ wpR (sWhile t fb m ρ') (PF K c σ H ρ Dn) (ES K C W c σ H ρ), fun σ' H' z => ⟨m, Nat.lt_succ_self m, z⟩, ?_⟩
      refine ⟨c, ρ2, s2.er, wpR_mono (wpR_bind.mp q) (fun fl ρ3 z => ?_) fun _ _ _ z => z.after s12⟩
      cases fl with
      | nx => exact fun σ' H' s' => ⟨ρ3, s12.trans s', z⟩
      | ct => exact fun σ' H' s' => ⟨ρ3, s12.trans s', z⟩
      | bk => exact fun σ' H' s' => z σ' H' (s12.trans s')
      | rt d => exact PF.after (fl := .rt d) (Dn := Dn) s12 z
      | rf d => exact PF.after (fl := .rf d) (Dn := Dn) s12 z
theorem s_while (n : Nat) {cond : Expr} {body : List Stmt} {t : En → Res Bool} {fb : En → Res Fl} (hp : PassesOwn (model X.prog X.w) X.A X.env X.xe) (ht : PT X cond (tT X.K C W t)) (hb : PSs X body (tS X.K C W fb)) : PS X (.While cond body [] pos) (tS X.K C W (sWhile t fb n)) := (ps_while hp ht hb).imp (while_imp n)
end
end DL

namespace DL
open PySem PySem.Spec PyProof.Rows L2

/-! ### defs: what they promise -/
inductive FV where
  | val (d : D) | fr (ds : List D)
/-- what a def's end does -/
def FQ (K : PySem.W.Frag) (O P : Addr → Prop) (H : Hp) (Q : VK) : FV → Prop
  | .val d => ∀ v H', Good P H H' → Rep K O H' v d → Q v H'
  | .fr ds => ∀ a vs H', Good P H H' → H a = none → H' a = some (.lst vs) → Reps K (fun b => O b ∨ b = a) H' vs ds → Q (.ref a) H'
/-- a def all of whose arguments are values; it lets nothing out -/
def spD0 (K : PySem.W.Frag) (n : Nat) (F : List D → Res FV) : Sp := fun vs H Q _ => ∃ O ds, (∀ a, O a → H a ≠ none) ∧ ds.length = n ∧ Reps K O H vs ds ∧ wpR (F ds).nx (fun r _ => FQ K O (fun _ => False) H Q r) (fun _ _ _ => False)
/-- a def whose first argument is a list that it writes -/
def FQ1 (K : PySem.W.Frag) (O : Addr → Prop) (a : Addr) (H : Hp) (Q : VK) (r : FV) (ρ' : En) : Prop := match ρ' with
  | [.pw w'] => FQ K O (fun b => b = a) H (fun v H' => (∃ ws', H' a = some (.lst ws') ∧ Reps K O H' ws' w') → Q v H') r
  | _ => False
def spD1 (K : PySem.W.Frag) (n : Nat) (F : List D → List D → Res FV) : Sp := fun vs H Q _ => ∃ O a ws us w ds, vs = .ref a :: us ∧ (∀ a, O a → H a ≠ none) ∧ O a ∧ ds.length = n ∧ H a = some (.lst ws) ∧ Reps K O H ws w ∧ Reps K O H us ds ∧
  wpR (F w ds).nx (FQ1 K O a H Q) (fun _ _ _ => False)
@[simp] def endF : Fl → En → Res FV
  | .nx, _ => .ok (.val .non) []
  | .rt d, _ => .ok (.val d) []
  | .rf ds, _ => .ok (.fr ds) []
  | _, _ => .no
/-- the def's slots at its entry: n names -/
@[simp] def entry (n : Nat) (ds : List D) : En := ds.map Sl.fz ++ List.replicate (n - ds.length) .no
@[simp] def dFun0 (n : Nat) (f : En → Res Fl) : List D → Res FV := fun ds => (f (entry n ds)).bind endF
@[simp] def entry1 (n : Nat) (w : List D) (ds : List D) : En := .pw w :: (ds.map Sl.fz ++ List.replicate (n - (ds.length + 1)) .no)
@[simp] def endF1 (fl : Fl) (ρ : En) : Res FV := match (ρ[0]? : Option Sl) with
  | some (Sl.pw w) => (endF fl ρ).bind fun r _ => .ok r [.pw w]
  | _ => .no
@[simp] def dFun1 (n : Nat) (f : En → Res Fl) : List D → List D → Res FV := fun w ds => (f (entry1 n w ds)).bind endF1
section
variable {K : PySem.W.Frag} {C : Ck} {W : L2.WX}
theorem entry_get {n i : Nat} {ds : List D} {s : Sl} (h : (entry n ds)[i]? = some s) : (∃ d, ds[i]? = some d ∧ s = .fz d) ∨ s = .no := by
  unfold entry at h
  by_cases hi : i < ds.length
  · rw [List.getElem?_append_left (by rw [List.length_map]; exact hi), List.getElem?_map, Option.map_eq_some_iff] at h
    obtain ⟨d, h1, rfl⟩ := h
    exact .inl ⟨d, h1, rfl⟩
  · rw [List.getElem?_append_right (by rw [List.length_map]; omega), List.getElem?_replicate] at h
    split at h
    · cases h; exact .inr rfl
    · cases h
theorem start_get {N : List Str} {i : Nat} {vs : List V} {v : V} (h : vs[i]? = some v) : (start N vs)[i]? = some (some v) := by
  unfold L2.start
  have hi : i < vs.length := (List.getElem?_eq_some_iff.mp h).1
  rw [List.getElem?_append_left (by rw [List.length_map]; exact hi), List.getElem?_map, h]; rfl
theorem start_len {N : List Str} {vs : List V} (h : vs.length ≤ N.length) : (start N vs).length = N.length := by
  unfold L2.start
  simp; omega
/-- at the entry -/
theorem ER.entry {N : List Str} {vs : List V} {ds : List D} {H : Hp} {O : Addr → Prop} (hO : ∀ a, O a → H a ≠ none) (r : Reps K O H vs ds) (hl : ds.length ≤ N.length) : ER K ⟨O, fun _ => False, H, fun _ => False⟩ (start N vs) H (entry N.length ds) := by
  have nown : ∀ b, ¬ own (start N vs) (DL.entry N.length ds) b := fun b ⟨i, ⟨s, es, z1, z2⟩, z3⟩ => by
    rcases entry_get z1 with ⟨d, _, rfl⟩ | rfl <;> cases z2
  refine ⟨?_, fun i d h => ?_, fun i s es h1 h2 => ?_, fun i j a h _ => (nown a ⟨i, h⟩).elim, fun i a es h _ => ?_, fun i a es h _ => ?_, Good.refl, hO, fun _ h => h.elim, fun _ h => h.elim, fun _ h => h.elim, fun _ h => h.elim⟩
  · rw [start_len (by rw [r.length]; exact hl)]
    unfold DL.entry; simp; omega
  · rcases entry_get h with ⟨e, h1, h2⟩ | h2
    · cases h2
      obtain ⟨v, hv, rv⟩ := r.get h1
      exact ⟨v, start_get hv, rv.m fun b z _ => z.elim id fun z => z.elim (fun z => z.elim) fun z => (nown b z).elim⟩
    · cases h2
  · rcases entry_get h1 with ⟨e, _, rfl⟩ | rfl <;> cases h2
  · rcases entry_get h with ⟨e, _, h2⟩ | h2 <;> cases h2
  · rcases entry_get h with ⟨e, _, h2⟩ | h2 <;> cases h2
theorem entry1_get {n i : Nat} {w ds : List D} {s : Sl} (h : (entry1 n w ds)[i]? = some s) : (i = 0 ∧ s = .pw w) ∨ (∃ j d, i = j + 1 ∧ ds[j]? = some d ∧ s = .fz d) ∨ s = .no := by
  cases i with
  | zero => unfold entry1 at h; simp at h; exact .inl ⟨rfl, h.symm⟩
  | succ i =>
    unfold entry1 at h
    rw [List.getElem?_cons_succ] at h
    by_cases hi : i < ds.length
    · rw [List.getElem?_append_left (by rw [List.length_map]; exact hi), List.getElem?_map, Option.map_eq_some_iff] at h
      obtain ⟨d, h1, rfl⟩ := h
      exact .inr (.inl ⟨i, d, rfl, h1, rfl⟩)
    · rw [List.getElem?_append_right (by rw [List.length_map]; omega), List.getElem?_replicate] at h
      split at h
      · cases h; exact .inr (.inr rfl)
      · cases h
theorem ER.entry1 {N : List Str} {a : Addr} {us ws : List V} {w ds : List D} {H : Hp} {O : Addr → Prop} (hO : ∀ a, O a → H a ≠ none) (ha : O a) (he : H a = some (.lst ws)) (rw' : Reps K O H ws w) (r : Reps K O H us ds) (hl : ds.length + 1 ≤ N.length) :
    ER K ⟨O, fun b => b = a, H, fun _ => False⟩ (start N (.ref a :: us)) H (entry1 N.length w ds) := by
  have ow : ∀ i b, ownAt (start N (.ref a :: us)) (DL.entry1 N.length w ds) i b → i = 0 ∧ b = a := fun i b ⟨⟨s, es, z1, z2⟩, z3⟩ => by
    rcases entry1_get z1 with ⟨rfl, rfl⟩ | ⟨j, d, _, _, rfl⟩ | rfl
    · rw [start_get (i := 0) (v := .ref a) rfl] at z3
      cases z3; exact ⟨rfl, rfl⟩
    · cases z2
    · cases z2
  have nown : ∀ b, own (start N (.ref a :: us)) (DL.entry1 N.length w ds) b → b = a := fun b ⟨i, z⟩ => (ow i b z).2
  have le : ∀ b, OO ⟨O, fun b => b = a, H, fun _ => False⟩ (start N (.ref a :: us)) (DL.entry1 N.length w ds) b → O b := fun b z => z.elim id fun z => z.elim (fun z => z.elim) fun z => by rw [nown b z]; exact ha
  refine ⟨?_, fun i d h => ?_, fun i s es h1 h2 => ?_, fun i j b h h' => (ow i b h).1.trans (ow j b h').1.symm, fun i b es h _ => ?_, fun i b es h hb => ?_, Good.refl, hO, fun b h => by rw [show b = a from h]; exact ha, fun _ h => h.elim, fun _ h => h.elim, fun _ h => h.elim⟩
  · rw [start_len (by rw [List.length_cons, r.length]; exact hl)]
    unfold DL.entry1; simp; omega
  · rcases entry1_get h with ⟨rfl, h2⟩ | ⟨j, e, rfl, h1, h2⟩ | h2
    · cases h2
    · cases h2
      obtain ⟨v, hv, rv⟩ := r.get h1
      exact ⟨v, start_get (by rw [List.getElem?_cons_succ]; exact hv), rv.m fun b z _ => le b z⟩
    · cases h2
  · rcases entry1_get h1 with ⟨rfl, rfl⟩ | ⟨j, e, rfl, _, rfl⟩ | rfl
    · cases h2
      exact ⟨a, ws, start_get rfl, he, rw'.m fun b z _ => le b z⟩
    · cases h2
    · cases h2
  · rcases entry1_get h with ⟨rfl, h2⟩ | ⟨j, e, rfl, h1, h2⟩ | h2 <;> cases h2
  · rcases entry1_get h with ⟨rfl, h2⟩ | ⟨j, e, rfl, h1, h2⟩ | h2
    · exact (ow _ b ⟨⟨_, _, h, rfl⟩, hb⟩).2
    · cases h2
    · cases h2
theorem nx_wpR {α β : Type} {m : Res α} {f : α → En → Res β} {Q : β → En → Prop} {E E' : Str → D → En → Prop} {Q' : α → En → Prop} (h : wpR (m.bind f).nx Q E) (k : ∀ a ρ, wpR (f a ρ).nx Q E → Q' a ρ) : wpR m Q' E' := by
  cases m with
  | ok a ρ => exact k a ρ h
  | ex c d ρ => exact h.elim
  | no => exact h.elim
/-- the body's reading from the promise -/
theorem body0 {N : List Str} {n : Nat} {f : En → Res Fl} {vs : List V} {H : Hp} {Q : VK} {E : XK} (hn : n ≤ N.length) (h : spD0 K n (dFun0 N.length f) vs H Q E) : tS K C WF f { nx := fun _ H' => Q .non H', rt := Q } (start N vs) H := by
  obtain ⟨O, ds, hO, hl, r, q⟩ := h
  refine ⟨_, _, ER.entry hO r (by omega), nx_wpR q fun fl ρ' q => ?_⟩
  cases fl with
  | nx => exact fun σ' H' s => q .non H' s.er.good .non
  | bk => exact q.elim
  | ct => exact q.elim
  | rt d => exact fun v σ' H' s rv => q v H' s.er.good (rv.m fun b z _ => .inl z)
  | rf ds => exact fun a vs σ' H' s h0 he rv => q a vs H' s.er.good h0 he (rv.m fun b z _ => z.imp .inl id)
theorem body1 {N : List Str} {n : Nat} {f : En → Res Fl} {vs : List V} {H : Hp} {Q : VK} {E : XK} (hn : n + 1 ≤ N.length) (h : spD1 K n (dFun1 N.length f) vs H Q E) : tS K C WF f { nx := fun _ H' => Q .non H', rt := Q } (start N vs) H := by
  obtain ⟨O, a, ws, us, w, ds, rfl, hO, ha, hl, he, rw', r, q⟩ := h
  refine ⟨_, _, ER.entry1 hO ha he rw' r (by omega), nx_wpR q fun fl ρ' q => ?_⟩
  unfold endF1 at q
  split at q
  · rename_i w' h0
    have w2 : ∀ {σ' : Sg} {H' : Hp}, StS K ⟨O, fun b => b = a, H, fun _ => False⟩ (start N (.ref a :: us)) H (DL.entry1 N.length w ds) σ' H' ρ' → ∃ ws', H' a = some (.lst ws') ∧ Reps K O H' ws' w' := fun {σ' H'} s => by
      obtain ⟨b, vs, y1, y2, y3⟩ := s.er.ow 0 _ w' h0 rfl
      have hb : b = a := s.er.lent 0 b w' h0 y1
      subst hb
      exact ⟨vs, y2, y3.m fun b z _ => .inl z⟩
    cases fl with
    | nx => exact fun σ' H' s => q .non H' s.er.good .non (w2 s)
    | bk => exact q.elim
    | ct => exact q.elim
    | rt d => exact fun v σ' H' s rv => q v H' s.er.good (rv.m fun b z _ => .inl z) (w2 s)
    | rf ds => exact fun a vs σ' H' s h0 he rv => q a vs H' s.er.good h0 he (rv.m fun b z _ => z.imp .inl id) (w2 s)
  · exact q.elim
end
/-! #### a def keeps its promise -/
section
variable {P : Program} {w : World} {K : PySem.W.Frag} {mg : Str → Option Value} {base : Heap} {x qual : Str} {params : Arguments} {body : List Stmt} {scope : Scope} {dvs : List V} {kws : List (Str × V)} {f : Addr} {fd : FuncData}
theorem reps_len {O : Addr → Prop} {H : Hp} {vs : List V} {ds : List D} {n : Nat} (r : Reps K O H vs ds) (h : ds.length = n) : vs.length = n := r.length.trans h
theorem fn_ok0 {N ps : List Str} {k n : Nat} {C : Ck} {g : En → Res Fl} (F : FunD K x qual params body scope dvs kws f fd) (S : FnScope N ps scope) (hn : ps.length = n)
    (hb : ∀ (cdv : Value) (A : Around) (outer : List Env) (s : Shared) (H : Hp) (E : XK), Room k (A.deeper (envOfC qual scope s.heap.objs.size f cdv)) → PSs (cxOf CX0 P w K mg base N qual scope f cdv A outer s H E).nox body (tS K C WF g)) :
    FnOk P w K mg base CX0 (k + 1) f fd ps (spD0 K n (dFun0 N.length g)) := by
  refine F.ok S (fun vs H Q E ⟨O, ds, hO, hl, r, q⟩ => by rw [r.length, hl, hn]) fun cdv A outer s H vs Q E hr h => ⟨_, PSs.nox (hb cdv A outer s H E hr), body0 ?_ h⟩
  rw [← hn, ← S.pre]; exact (List.length_take_le' ..)
theorem fn_ok1 {N ps : List Str} {k n : Nat} {C : Ck} {g : En → Res Fl} (F : FunD K x qual params body scope dvs kws f fd) (S : FnScope N ps scope) (hn : ps.length = n + 1)
    (hb : ∀ (cdv : Value) (A : Around) (outer : List Env) (s : Shared) (H : Hp) (E : XK), Room k (A.deeper (envOfC qual scope s.heap.objs.size f cdv)) → PSs (cxOf CX0 P w K mg base N qual scope f cdv A outer s H E).nox body (tS K C WF g)) :
    FnOk P w K mg base CX0 (k + 1) f fd ps (spD1 K n (dFun1 N.length g)) := by
  refine F.ok S (fun vs H Q E ⟨O, a, ws, us, w, ds, e, hO, ha, hl, he, rw', r, q⟩ => by rw [e, List.length_cons, r.length, hl, hn]) fun cdv A outer s H vs Q E hr h => ⟨_, PSs.nox (hb cdv A outer s H E hr), body1 ?_ h⟩
  rw [← hn, ← S.pre]; exact (List.length_take_le' ..)
end
/-! #### calls -/
@[simp] def dCal (n : Nat) (F : List D → Res FV) (fa : En → Res (List D)) : En → Res D := fun ρ => (fa ρ).bind fun ds ρ1 => if ds.length = n then match F ds with
    | .ok (.val d) _ => .ok d ρ1
    | .ok (.fr l) _ => .ok (.lst l) ρ1
    | _ => .no
  else .no
@[simp] def dCalF (n : Nat) (F : List D → Res FV) (fa : En → Res (List D)) : En → Res (List D) := fun ρ => (fa ρ).bind fun ds ρ1 => if ds.length = n then match F ds with
    | .ok (.fr l) _ => .ok l ρ1
    | _ => .no
  else .no
/-- the first argument is lent: slot i -/
@[simp] def dCal1 (n i : Nat) (F : List D → List D → Res FV) (fa : En → Res (List D)) : En → Res D := fun ρ => optR (ownS ρ i) fun _ => (fa ρ).bind fun ds ρ1 => if ds.length = n then optR (ownS ρ1 i) fun q => match F q.2 ds with
    | .ok (.val d) [.pw w] => .ok d (ρ1.set i (q.1.put w))
    | .ok (.fr l) [.pw w] => .ok (.lst l) (ρ1.set i (q.1.put w))
    | _ => .no
  else .no
def dCal1F (n i : Nat) (F : List D → List D → Res FV) (fa : En → Res (List D)) : En → Res (List D) := fun ρ => optR (ownS ρ i) fun _ => (fa ρ).bind fun ds ρ1 => if ds.length = n then optR (ownS ρ1 i) fun q => match F q.2 ds with
    | .ok (.fr l) [.pw w] => .ok l (ρ1.set i (q.1.put w))
    | _ => .no
  else .no
section
variable {K : PySem.W.Frag} {c : Bx} {σ : Sg} {H H' : Hp} {ρ : En}
theorem good_grow (g : Good (fun _ => False) H H') : ∀ b o, H b = some o → H' b = some o := fun b o e => g.keep b o e id
/-- behind a call that wrote slot i's list -/
theorem ER.lent' {i : Nat} {s s' : Sl} {ds es : List D} {vs' : List V} {a : Addr} (er : ER K c σ H ρ) (h : ρ[i]? = some s) (ho : s.own = some ds) (ha : σ[i]? = some (some (.ref a))) (g : Good (fun b => b = a) H H') (he : H' a = some (.lst vs')) (r : Reps K (OO c σ ρ) H' vs' es)
    (hs : (∃ es0, s = .ow es0 ∧ s' = .ow es) ∨ ∃ es0, s = .pw es0 ∧ s' = .pw es) : Step K c σ H ρ H' (ρ.set i s') := by
  have hi : i < ρ.length := (List.getElem?_eq_some_iff.mp h).1
  have hs' : s'.own = some es := by rcases hs with ⟨_, _, rfl⟩ | ⟨_, _, rfl⟩ <;> rfl
  have ma : own σ ρ a := ⟨i, ⟨s, ds, h, ho⟩, ha⟩
  have at_ : ∀ j b, ownAt σ (ρ.set i s') j b → ownAt σ ρ j b := fun j b ⟨⟨t, ts, z1, z2⟩, z3⟩ => by
    by_cases hj : j = i
    · subst hj; exact ⟨⟨s, ds, h, ho⟩, z3⟩
    · rw [List.getElem?_set_ne (Ne.symm hj)] at z1
      exact ⟨⟨t, ts, z1, z2⟩, z3⟩
  have le : ∀ b, own σ (ρ.set i s') b → own σ ρ b := fun b ⟨j, z⟩ => ⟨j, at_ j b z⟩
  have le2 : ∀ b, OO c σ (ρ.set i s') b → OO c σ ρ b := fun b z => z.imp id (Or.imp id (le b))
  have gO : Good (OO c σ ρ) H H' := g.mono fun b e => by rw [show b = a from e]; exact .inr (.inr ma)
  have g1 : Good (own σ ρ) H H' := g.mono fun b e => by rw [show b = a from e]; exact ma
  refine ⟨g1, le, ⟨by rw [List.length_set]; exact er.len, fun j d hj => ?_, fun j t ts hj hts => ?_, fun j k b hj hk => er.one j k b (at_ j b hj) (at_ k b hk), fun j b ts hj hb => ?_, fun j b ts hj hb => ?_, ?_, er.bt, er.pb, fun b z => g.there b (er.zt b z), er.z0, fun b z y => er.zo b z (le b y)⟩⟩
  · by_cases e : j = i
    · subst e
      rw [List.getElem?_set_self hi] at hj; cases hj
      cases hs'
    · rw [List.getElem?_set_ne (Ne.symm e)] at hj
      obtain ⟨v, y1, y2⟩ := er.fz j d hj
      exact ⟨v, y1, (y2.g gO).m fun b z _ => le2 b z⟩
  · by_cases e : j = i
    · subst e
      rw [List.getElem?_set_self hi] at hj; cases hj
      rw [hs'] at hts; cases hts
      exact ⟨a, vs', ha, he, r.m fun b z _ => le2 b z⟩
    · rw [List.getElem?_set_ne (Ne.symm e)] at hj
      obtain ⟨b, us, y1, y2, y3⟩ := er.ow j t ts hj hts
      have hne : b ≠ a := fun q => e (er.one j i a ⟨⟨t, ts, hj, hts⟩, q ▸ y1⟩ ⟨⟨s, ds, h, ho⟩, ha⟩)
      exact ⟨b, us, y1, g.keep b _ y2 hne, (y3.g gO).m fun b z _ => le2 b z⟩
  · by_cases e : j = i
    · subst e
      rw [List.getElem?_set_self hi] at hj; cases hj
      rcases hs with ⟨e0, rfl, _⟩ | ⟨_, _, q⟩
      · exact er.mine j b e0 h hb
      · cases q
    · rw [List.getElem?_set_ne (Ne.symm e)] at hj
      exact er.mine j b ts hj hb
  · by_cases e : j = i
    · subst e
      rw [List.getElem?_set_self hi] at hj; cases hj
      rcases hs with ⟨_, _, q⟩ | ⟨e0, rfl, _⟩
      · cases q
      · exact er.lent j b e0 h hb
    · rw [List.getElem?_set_ne (Ne.symm e)] at hj
      exact er.lent j b ts hj hb
  · rcases hs with ⟨e0, rfl, _⟩ | ⟨e0, rfl, _⟩
    · have hn := er.mine i a e0 h ha
      exact ⟨fun b o q n => g.keep b o (er.good.keep b o q n) (fun z => by rw [z, hn] at q; cases q), fun b q => g.there b (er.good.there b q)⟩
    · have hp := er.lent i a e0 h ha
      exact ⟨fun b o q n => g.keep b o (er.good.keep b o q n) fun z => n (by rw [z]; exact hp), fun b q => g.there b (er.good.there b q)⟩
end
section
variable {K : PySem.W.Frag} {C : Ck} {W : L2.WX} {n : Nat} {F : List D → Res FV} {fa : En → Res (List D)} {E : XK}
theorem cal_imp : ∀ σ H Q, tD K C W (dCal n F fa) σ H Q → tCall (spD0 K n F) [] E (tA K C W fa) σ H Q := fun σ H Q ⟨c, ρ, er, q⟩ => by
  refine tA_bind er q fun ds ρ1 vs H1 s r q => ?_
  obtain ⟨hl, q⟩ := wpR_ite q
  rw [List.append_nil]
  refine ⟨OO c σ ρ1, ds, fun a h => s.er.there h, hl, r, ?_⟩
  split at q
  · rename_i d _ hF
    rw [hF]
    exact fun v H2 g rv => q v H2 (s.trans (s.er.grown (good_grow g))) rv
  · rename_i l _ hF
    rw [hF]
    exact fun a us H2 g h0 he rv => q _ H2 (s.trans (s.er.grown (good_grow g))) (.lst ⟨fun z => s.er.there z h0, he⟩ (rv.m fun b z _ => .inl z))
  · exact q.elim
theorem calF_imp : ∀ σ H Q, tF K C W (dCalF n F fa) σ H Q → tCall (spD0 K n F) [] E (tA K C W fa) σ H Q := fun σ H Q ⟨c, ρ, er, q⟩ => by
  refine tA_bind er q fun ds ρ1 vs H1 s r q => ?_
  obtain ⟨hl, q⟩ := wpR_ite q
  rw [List.append_nil]
  refine ⟨OO c σ ρ1, ds, fun a h => s.er.there h, hl, r, ?_⟩
  split at q
  · rename_i l _ hF
    rw [hF]
    exact fun a us H2 g h0 he rv => q a us H2 (s.trans (s.er.grown (good_grow g))) (s.good.free h0) he (s.er.moreG h0 (good_grow g) (by rw [he]; exact fun y => by cases y)) (rv.m fun b z _ => more_le z)
  · exact q.elim
variable {F1 : List D → List D → Res FV} {i : Nat}
theorem cal1_imp : ∀ σ H Q, tD K C W (dCal1 n i F1 fa) σ H Q → tCall (spD1 K n F1) [] E (tCons (tVar i) (tA K C W fa)) σ H Q := fun σ H Q ⟨c, ρ, er, q⟩ => by
  obtain ⟨⟨s0, d0⟩, h0, q⟩ := wpR_opt q
  obtain ⟨a, xs, q1, q2, q3⟩ := er.ownA h0
  refine ⟨_, q1, ?_⟩
  refine tA_bind er q fun ds ρ1 vs H1 s r q => ?_
  obtain ⟨hl, q⟩ := wpR_ite q
  obtain ⟨⟨s', es⟩, h1, q⟩ := wpR_opt q
  obtain ⟨b, ys, y1, y2, y3⟩ := s.er.ownA h1
  rw [q1] at y1; cases y1
  obtain ⟨g1, g2⟩ := ownS_some h1
  rw [List.append_nil]
  refine ⟨OO c σ ρ1, a, ys, vs, es, ds, rfl, fun a h => s.er.there h, .inr (.inr ⟨i, ⟨s', es, g1, g2⟩, q1⟩), hl, y2, y3, r, ?_⟩
  have q : wpR (match F1 es ds with
    | .ok (.val d) [.pw w] => Res.ok d (ρ1.set i (s'.put w))
    | .ok (.fr l) [.pw w] => Res.ok (D.lst l) (ρ1.set i (s'.put w))
    | _ => .no) (fun d ρ' => ∀ v H', Step K c σ H ρ H' ρ' → Rep K (OO c σ ρ') H' v d → Q v H') (EX K C W c σ H ρ) := q
  split at q
  · rename_i d w hF
    rw [hF]
    intro v H2 g rv ⟨ws', hw, rw'⟩
    have st := s.er.lent' g1 g2 q1 g hw rw' (put_or g2)
    exact q v H2 (s.trans st) (rv.m fun b z _ => OO.le st z)
  · rename_i l w hF
    rw [hF]
    intro p us H2 g hn he rv ⟨ws', hw, rw'⟩
    have st := s.er.lent' g1 g2 q1 g hw rw' (put_or g2)
    exact q _ H2 (s.trans st) (.lst ⟨fun z => s.er.there (OO.le st z) hn, he⟩ (rv.m fun b z _ => .inl (OO.le st z)))
  · exact q.elim
end
end DL

namespace DL
open PySem PySem.Spec PyProof.Rows L2

/-! ### calls of defs, by name -/
structure Cl (P : Program) (w : World) (K : PySem.W.Frag) (mg : Str → Option Value) (base : Heap) (k : Nat) (x : Str) (sp : Sp) : Prop where
  ex : ∃ f fd ps, FnOk P w K mg base CX0 k f fd ps sp ∧ mg x = some (.ref f) ∧ PySem.W.keepIn K (.ref f) = true ∧ Binds K fd ps []
structure ClK (P : Program) (w : World) (K : PySem.W.Frag) (mg : Str → Option Value) (base : Heap) (k : Nat) (x : Str) (sp : Sp) (n : Nat) (ks : List Str) : Prop where
  ex : ∃ f fd ps, FnOk P w K mg base CX0 k f fd ps sp ∧ mg x = some (.ref f) ∧ PySem.W.keepIn K (.ref f) = true ∧ KBn K fd ps n ks (fun us ws => us ++ ws) (fun vs zs => vs ++ zs)
section
variable {K : PySem.W.Frag} {x qual : Str} {params : Arguments} {body : List Stmt} {scope : Scope} {f : Addr} {fd : FuncData} {ps : List Str}
theorem kbinds0 (F : FunD K x qual params body scope [] [] f fd) (n : Nat) (ks : List Str)
    (h : ∀ (kV doc pm : Value) (an : Option Addr) (cdv ct : Value) (us ws : List Value), us.length = n → ws.length = ks.length → bindArgs (PySem.W.fnOf x qual params body scope .none kV doc pm an cdv ct) ⟨us, ks.zip ws⟩ = pure (ps.zip (us ++ ws))) :
    KBn K fd ps n ks (fun us ws => us ++ ws) (fun vs zs => vs ++ zs) := by
  obtain ⟨oc, od, dV, kV, doc, pm, an, cdv, ct, osl, rfl, lk, hcd, hD, hK⟩ := F.ex
  rcases hD with ⟨_, rfl⟩ | ⟨e, _⟩
  · exact ⟨fun s us ws _ l1 l2 => .of_eq (h kV doc pm an cdv ct us ws l1 l2), fun r1 r2 => r1.append r2⟩
  · exact absurd rfl e
end
section
variable {X : Cx} {C : Ck} {W : L2.WX} {pos p : Pos} {k j n i : Nat} {x y : Str} {e : Expr} {es : List Expr} {F : List D → Res FV} {F1 : List D → List D → Res FV} {fa : En → Res (List D)}
theorem d_cal (c : Cl X.prog X.w X.K X.mg X.base k x (spD0 X.K n F)) (hr : Room j X.A) (ha : PA X (e :: es) (tA X.K C W fa)) (hk : k ≤ j := by decide) (hg : Gl X x := by rfl) (hdb : (x == ("__debug__" : Str)) = false := by decide)
    (he : starEach (e :: es) X.env = (false, eval e X.env) :: starEach es X.env := by rfl) (hpl : (backTo pos (starEach es X.env)).any (·.1) = false := by rfl) : PE X (.Call (.Name x p) (e :: es) [] pos) (tD X.K C W (dCal n F fa)) := by
  obtain ⟨f, fd, ps, c, hm, hkp, hb⟩ := c.ex
  exact (pe_call c (hr.mono hk) hg hm hkp hb .nil (pass0 (X := X)) ha hdb he hpl).imp cal_imp
theorem f_cal (c : Cl X.prog X.w X.K X.mg X.base k x (spD0 X.K n F)) (hr : Room j X.A) (ha : PA X (e :: es) (tA X.K C W fa)) (hk : k ≤ j := by decide) (hg : Gl X x := by rfl) (hdb : (x == ("__debug__" : Str)) = false := by decide)
    (he : starEach (e :: es) X.env = (false, eval e X.env) :: starEach es X.env := by rfl) (hpl : (backTo pos (starEach es X.env)).any (·.1) = false := by rfl) : PE X (.Call (.Name x p) (e :: es) [] pos) (tF X.K C W (dCalF n F fa)) := by
  obtain ⟨f, fd, ps, c, hm, hkp, hb⟩ := c.ex
  exact (pe_call c (hr.mono hk) hg hm hkp hb .nil (pass0 (X := X)) ha hdb he hpl).imp calF_imp
theorem d_cal0 (c : Cl X.prog X.w X.K X.mg X.base k x (spD0 X.K n F)) (hr : Room j X.A) (hk : k ≤ j := by decide) (hg : Gl X x := by rfl) (hdb : (x == ("__debug__" : Str)) = false := by decide) : PE X (.Call (.Name x p) [] [] pos) (tD X.K C W (dCal n F dNil)) := by
  obtain ⟨f, fd, ps, c, hm, hkp, hb⟩ := c.ex
  refine (pe_call0 c (hr.mono hk) hg hm hkp hb .nil (pass0 (X := X)) hdb).imp fun σ H Q q => ?_
  obtain ⟨c, ρ, er, q⟩ := cal_imp (E := E0) σ H Q q
  exact q [] H er.step .nil
/-- f(xs, e, ..), xs lent -/
theorem d_cal1 (i : Nat) {p2 : Pos} (c : Cl X.prog X.w X.K X.mg X.base k x (spD1 X.K n F1)) (hr : Room j X.A) (ha : PA X es (tA X.K C W fa)) (hk : k ≤ j := by decide) (hN : X.N[i]? = some y := by rfl) (hv : Vis X.env.scope y := by first | exact Or.inl rfl | exact Or.inr (Or.inl rfl) | exact Or.inr (Or.inr rfl)) (hd2 : (y == ("__debug__" : Str)) = false := by decide)
    (hcd : (y == ("__classdict__" : Str)) = false := by decide) (hg : Gl X x := by rfl) (hdb : (x == ("__debug__" : Str)) = false := by decide)
    (he : starEach (.Name y p2 :: es) X.env = (false, eval (.Name y p2) X.env) :: starEach es X.env := by rfl) (hpl : (backTo pos (starEach es X.env)).any (·.1) = false := by rfl) : PE X (.Call (.Name x p) (.Name y p2 :: es) [] pos) (tD X.K C W (dCal1 n i F1 fa)) := by
  obtain ⟨f, fd, ps, c, hm, hkp, hb⟩ := c.ex
  exact (pe_call c (hr.mono hk) hg hm hkp hb .nil (pass0 (X := X)) (pa_cons (pe_var hN hv hd2 hcd) ha he) hdb he hpl).imp cal1_imp
/-! #### keywords -/
theorem _root_.L2.PK.imp {kws : List Keyword} {t t' : TA} (h : PK X kws t) (i : ∀ σ H Q, t' σ H Q → t σ H Q) : PK X kws t' := ⟨fun pos pins s σ H Q I q => h.run pos pins s σ H Q I (i σ H Q q)⟩
theorem k_nil : PK X [] (tA X.K C W dNil) := pk_nil.imp fun σ H Q ⟨c, ρ, er, q⟩ => q [] H er.step .nil
theorem k_cons {nm : Option Str} {kpos : Pos} {kws : List Keyword} {f : En → Res D} {g : En → Res (List D)} (h : PE X e (tD X.K C W f)) (h2 : PK X kws (tA X.K C W g)) : PK X (⟨nm, e, kpos⟩ :: kws) (tA X.K C W (dCons f g)) := (pk_cons h h2).imp fun σ H Q ⟨c, ρ, er, q⟩ => by
  refine tD_bind er q fun d ρ1 v H1 s1 r1 q1 => ?_
  refine tA_bind s1.er (wpR_after s1 q1 fun _ _ z => z) fun ds ρ2 vs H2 s2 r2 q2 => ?_
  exact q2 (v :: vs) H2 (s1.trans s2) (.cons (s2.rep r1) r2)
/-- the positional arguments, then the keywords' -/
def dApd (fa fk : En → Res (List D)) : En → Res (List D) := fun ρ => (fa ρ).bind fun ds ρ1 => (fk ρ1).bind fun es ρ2 => .ok (ds ++ es) ρ2
@[simp] def dLens (n m : Nat) (fa fk : En → Res (List D)) : En → Res (List D) := fun ρ => (fa ρ).bind fun ds ρ1 => if ds.length = n then (fk ρ1).bind fun es ρ2 => if es.length = m then .ok (ds ++ es) ρ2 else .no else .no
theorem calK_imp {K : PySem.W.Frag} {m N : Nat} (hN : n + m = N) {fk : En → Res (List D)} {E : XK} : ∀ σ H Q, tD K C W (dCal N F (dLens n m fa fk)) σ H Q → tCallN n m (spD0 K N F) (fun vs zs => vs ++ zs) E (tA K C W fa) (tA K C W fk) σ H Q := fun σ H Q ⟨c, ρ, er, q⟩ => by
  have q := wpR_bind.mp (show wpR ((dLens n m fa fk ρ).bind _) _ _ from q)
  refine tA_bind er q fun ds ρ1 vs H1 s1 r1 q => ?_
  obtain ⟨l1, q⟩ := wpR_ite q
  refine tA_bind s1.er (wpR_after s1 q fun _ _ z => z) fun es ρ2 us H2 s2 r2 q => ?_
  obtain ⟨l2, q⟩ := wpR_ite q
  refine ⟨by rw [r1.length, l1], by rw [r2.length, l2], ?_⟩
  have s := s1.trans s2
  have r := (s2.reps r1).append r2
  have hl : (ds ++ es).length = N := by rw [List.length_append, l1, l2, hN]
  refine ⟨OO c σ ρ2, ds ++ es, fun a h => s2.er.there h, hl, r, ?_⟩
  have q := (wpR_ite (show wpR (if (ds ++ es).length = N then _ else Res.no) _ _ from q)).2
  split at q
  · rename_i d _ hF
    rw [hF]
    exact fun v H2 g rv => q v H2 (s.trans (s2.er.grown (good_grow g))) rv
  · rename_i l _ hF
    rw [hF]
    exact fun a us H2 g h0 he rv => q _ H2 (s.trans (s2.er.grown (good_grow g))) (.lst ⟨fun z => s2.er.there z h0, he⟩ (rv.m fun b z _ => .inl z))
  · exact q.elim
theorem d_calK {m N : Nat} {ks : List Str} {fk : En → Res (List D)} {kws : List Keyword} (c : ClK X.prog X.w X.K X.mg X.base k x (spD0 X.K N F) n ks) (hr : Room j X.A) (ha : PA X (e :: es) (tA X.K C W fa)) (hkw : PK X kws (tA X.K C W fk)) (hk : k ≤ j := by decide) (hg : Gl X x := by rfl)
    (hall : (backToKw pos (keywordEach kws X.env)).all (·.1.isSome) = true := by rfl) (hks : (backToKw pos (keywordEach kws X.env)).filterMap (·.1) = ks := by rfl)
    (hdb : (x == ("__debug__" : Str)) = false := by decide) (he : starEach (e :: es) X.env = (false, eval e X.env) :: starEach es X.env := by rfl)
    (hpl : ((backTo pos (starEach (e :: es) X.env)).any (·.1) || (backToKw pos (keywordEach kws X.env)).any (·.1.isNone)) = false := by rfl) (hl : ks.length = m := by rfl) (hN : n + m = N := by rfl) :
    PE X (.Call (.Name x p) (e :: es) kws pos) (tD X.K C W (dCal N F (dLens n m fa fk))) := by
  obtain ⟨f, fd, ps, c, hm, hkp, hb⟩ := c.ex
  subst hl
  exact (pe_callN c (hr.mono hk) hg hm hkp hb (pass0 (X := X)) ha hkw hall hks hdb he hpl).imp (calK_imp hN)
/-- f(k = v, ..) -/
theorem d_calK0 {m : Nat} {ks : List Str} {fk : En → Res (List D)} {kws : List Keyword} (c : ClK X.prog X.w X.K X.mg X.base k x (spD0 X.K m F) 0 ks) (hr : Room j X.A) (hkw : PK X kws (tA X.K C W fk)) (hk : k ≤ j := by decide) (hg : Gl X x := by rfl)
    (hall : (backToKw pos (keywordEach kws X.env)).all (·.1.isSome) = true := by rfl) (hks : (backToKw pos (keywordEach kws X.env)).filterMap (·.1) = ks := by rfl)
    (hdb : (x == ("__debug__" : Str)) = false := by decide) (hpl : ((backTo pos (starEach [] X.env)).any (·.1) || (backToKw pos (keywordEach kws X.env)).any (·.1.isNone)) = false := by rfl) (hl : ks.length = m := by rfl) :
    PE X (.Call (.Name x p) [] kws pos) (tD X.K C W (dCal m F (dLens 0 m dNil fk))) := by
  obtain ⟨f, fd, ps, c, hm, hkp, hb⟩ := c.ex
  subst hl
  refine PE.imp ?_ (calK_imp (E := E0) (Nat.zero_add _))
  refine ⟨fun pins s σ H Q I h => ?_⟩
  obtain ⟨c0, ρ, er, h⟩ := h
  have h := h [] H er.step .nil
  refine wpAny_Call_Name_kw (ld_glob I hg hm ?_ hdb)
  refine PySem.W.callWith_KW0 (h₀ := X.base) I.ok.mod.kin hkp hall ?_ hpl
  refine thn (hkw.run pos pins s σ H _ I h) fun ws s2 ⟨zs, H2, I2, rz, l1, l2, q2⟩ => ⟨I2.kIn, ?_⟩
  rw [hks]
  exact run_fnN (us := []) (vs := []) c (hr.mono hk) hb (pass0 (X := X)) I2 .nil rz rfl l2 q2
end
end DL

namespace DL
open PySem PySem.Spec PyProof.Rows L2

/-! ### name = [.. for ..] on one line -/
section
variable {X : Cx} {C : Ck} {W : L2.WX} {pos : Pos} {K : PySem.W.Frag}
theorem asF_imp {f : En → Res (List D)} {i : Nat} : ∀ Dn σ H, tS K C W (sAs (dFz f) (gN i)) Dn σ H → tAsg (tF K C W f) (gName i) Dn σ H := fun Dn σ H ⟨c, ρ, er, q⟩ => by
  have q : wpR ((f ρ).bind fun ds ρ1 => .ok .nx (ρ1.set i (.fz (.lst ds)))) (PF K c σ H ρ Dn) (ES K C W c σ H ρ) := by
    revert q
    unfold sAs dFz
    cases f ρ <;> exact id
  refine sF er q fun ds ρ1 a vs H1 s hn he em r q => ?_
  have st := s
  obtain ⟨e1, e2⟩ := s.er.setFz (i := i) (frz_rep er s hn he r)
  have q : ∀ σ' H', StS K c σ H ρ σ' H' (ρ1.set i (.fz (.lst ds))) → Dn.nx σ' H' := q
  exact q _ H1 ⟨s.good, fun b z => .inl (s.le b (e2 b z)), e1⟩
section
variable {i : Nat} {y : Str} {py : Pos} {elt tgt iter : Expr} {ifs : List Expr} {scope : Scope} {own : List (Str × Nat)} {spos : Pos} {fi : En → Res (List D)} {gD : D → En → Option En} {g : TG} {ts : List Nat} {tt : En → Res Bool} {fe : En → Res D}
theorem s_setLc (i : Nat) (hc : X.calm = true) (hN : X.N.Nodup) (hi : PI X tgt iter (tI X.K C W fi)) (ok : BlkOk X.N X.env.scope scope own)
    (tg : TgD X.K gD ts g) (hts : ∀ j ∈ ts, j ∈ own.map (·.2))
    (hg : ∀ (s : Shared) (H : Hp) (Ca : Addr) (cl : List (Str × Addr)) (fp : List Addr), PG (X.blk s H scope (compEnvC scope cl Ca X.env) fp) tgt g) (ht : ∀ (s : Shared) (H : Hp) (Ca : Addr) (cl : List (Str × Addr)) (fp : List Addr), PTs (X.blk s H scope (compEnvC scope cl Ca X.env) fp) ifs (tT X.K C WF tt))
    (he : ∀ (s : Shared) (H : Hp) (Ca : Addr) (cl : List (Str × Addr)) (fp : List Addr), PE (X.blk s H scope (compEnvC scope cl Ca X.env) fp) elt (tD X.K C WF fe)) (hy : X.N[i]? = some y := by rfl) (hyl : X.env.scope.names.lookup y = some .local := by rfl)
    (hsw : swapsWith (.ListComp elt [⟨tgt, iter, ifs, 0⟩] scope pos) (some (.Name y py)) spos.line X.env = pure true := by rfl) (hs : ∀ x, foldedSetIterable iter X.env x = pure x := by intro _; rfl) :
    PS X (.Assign [.Name y py] (.ListComp elt [⟨tgt, iter, ifs, 0⟩] scope pos) spos) (tS X.K C W (sAs (dFz (dLc (own.map (·.2)) fi gD tt fe)) (gN i))) := (ps_setLc hc hN hy hyl hsw hi ok hg ht he hs).imp fun Dn σ H q => by
  exact lc_imp tg hts σ H _ (asF_imp (i := i) Dn σ H q)
theorem s_setLcO (i : Nat) (hc : X.calm = true) (hN : X.N.Nodup) (hi : PI X tgt iter (tI X.K C W fi)) (ok : BlkOk X.N X.env.scope scope own)
    (tg : TgD X.K gD ts g) (hts : ∀ j ∈ ts, j ∈ own.map (·.2))
    (hg : ∀ (s : Shared) (H : Hp) (Ca : Addr) (cl : List (Str × Addr)) (fp : List Addr), PG (X.blk s H scope (compEnvC scope cl Ca X.env) fp) tgt g) (ht : ∀ (s : Shared) (H : Hp) (Ca : Addr) (cl : List (Str × Addr)) (fp : List Addr), PTs (X.blk s H scope (compEnvC scope cl Ca X.env) fp) ifs (tT X.K C WF tt))
    (he : ∀ (s : Shared) (H : Hp) (Ca : Addr) (cl : List (Str × Addr)) (fp : List Addr), PE (X.blk s H scope (compEnvC scope cl Ca X.env) fp) elt (tD X.K C WF fe)) (hy : X.N[i]? = some y := by rfl) (hyl : X.env.scope.names.lookup y = some .local := by rfl)
    (hsw : swapsWith (.ListComp elt [⟨tgt, iter, ifs, 0⟩] scope pos) (some (.Name y py)) spos.line X.env = pure true := by rfl) (hs : ∀ x, foldedSetIterable iter X.env x = pure x := by intro _; rfl) :
    PS X (.Assign [.Name y py] (.ListComp elt [⟨tgt, iter, ifs, 0⟩] scope pos) spos) (tS X.K C W (sAsO (dLc (own.map (·.2)) fi gD tt fe) i)) := (ps_setLc hc hN hy hyl hsw hi ok hg ht he hs).imp fun Dn σ H q => by
  exact lc_imp tg hts σ H _ (aso_imp (i := i) Dn σ H q)
end
end

/-! ### a, b = x, y -/
inductive Ai where
  | vl (d : D) | nw (ds : List D)
def Bx.mores (c : Bx) (ps : List Addr) : Bx := { c with Z := fun a => c.Z a ∨ a ∈ ps }
inductive AR (K : PySem.W.Frag) (O : Addr → Prop) (H : Hp) : List V → List Ai → List Addr → Prop
  | nil : AR K O H [] [] []
  | vl {v d vs as ps} : Rep K O H v d → AR K O H vs as ps → AR K O H (v :: vs) (.vl d :: as) ps
  | nw {a us ds vs as ps} : H a = some (.lst us) → Reps K O H us ds → AR K O H vs as ps → AR K O H (.ref a :: vs) (.nw ds :: as) (a :: ps)
section
variable {K : PySem.W.Frag} {c : Bx} {σ : Sg} {H H' : Hp} {ρ ρ' : En}
theorem AR.m {O O' : Addr → Prop} {vs : List V} {as : List Ai} {ps : List Addr} (h : AR K O H vs as ps) (m : ∀ b, O' b → H b ≠ none → O b) : AR K O' H vs as ps := by
  induction h with
  | nil => exact .nil
  | vl r _ ih => exact .vl (r.m m) ih
  | nw e r _ ih => exact .nw e (r.m m) ih
theorem ER.zle {c2 : Bx} (er : ER K c σ H ρ) (hB : c2.B = c.B) (hP : c2.P = c.P) (h0 : c2.H0 = c.H0) (z : ∀ b, c2.Z b → c.Z b) : ER K c2 σ H ρ := by
  have m : ∀ b, OO c2 σ ρ b → OO c σ ρ b := fun b h => by
    rcases h with h | h | h
    · rw [hB] at h; exact .inl h
    · exact .inr (.inl (z b h))
    · exact .inr (.inr h)
  refine ⟨er.len, fun i d h => ?_, fun i s ds h1 h2 => ?_, er.one, fun i a ds h1 h2 => by rw [h0]; exact er.mine i a ds h1 h2, fun i a ds h1 h2 => by rw [hP]; exact er.lent i a ds h1 h2, by rw [hP, h0]; exact er.good, fun a h => by rw [h0]; rw [hB] at h; exact er.bt a h, fun a h => by rw [hB]; rw [hP] at h; exact er.pb a h, fun a h => er.zt a (z a h), fun a h => by rw [h0]; exact er.z0 a (z a h), fun a h => er.zo a (z a h)⟩
  · obtain ⟨v, q, r⟩ := er.fz i d h
    exact ⟨v, q, r.m fun b z _ => m b z⟩
  · obtain ⟨a, vs, q1, q2, r⟩ := er.ow i s ds h1 h2
    exact ⟨a, vs, q1, q2, r.m fun b z _ => m b z⟩
theorem Step.less {p : Addr} (s : Step K (c.more p) σ H ρ H' ρ') : Step K c σ H ρ H' ρ' := ⟨s.good, s.le, s.er.less⟩
end
def tM (K : PySem.W.Frag) (C : Ck) (W : L2.WX) (f : En → Res (List Ai)) : TA := fun σ H Q => ∃ c ρ, ER K c σ H ρ ∧ wpR (f ρ) (fun as ρ' => ∀ vs H' ps, Step K c σ H ρ H' ρ' → ER K (c.mores ps) σ H' ρ' → (∀ a ∈ ps, H a = none) → ps.Nodup → AR K (OO (c.mores ps) σ ρ') H' vs as ps → Q vs H') (EX K C W c σ H ρ)
@[simp] def mNil : En → Res (List Ai) := fun ρ => .ok [] ρ
@[simp] def mVl (f : En → Res D) (g : En → Res (List Ai)) : En → Res (List Ai) := fun ρ => (f ρ).bind fun d ρ1 => (g ρ1).bind fun ds ρ2 => .ok (.vl d :: ds) ρ2
@[simp] def mNw (f : En → Res (List D)) (g : En → Res (List Ai)) : En → Res (List Ai) := fun ρ => (f ρ).bind fun d ρ1 => (g ρ1).bind fun ds ρ2 => .ok (.nw d :: ds) ρ2
section
variable {K : PySem.W.Frag} {c : Bx} {σ : Sg} {H H1 H2 : Hp} {ρ ρ1 ρ2 : En} {X : Cx} {C : Ck} {W : L2.WX} {e : Expr} {es : List Expr} {pos : Pos}
theorem EX.more {n : Str} {d : D} {ρ' : En} {p : Addr} (h : EX K C W c σ H ρ n d ρ') : EX K C W (c.more p) σ H ρ n d ρ' := fun cls dd H' s ⟨x, a, v, h1, h2, h3, h4⟩ => h cls dd H' s.less ⟨x, a, v, h1, h2, fun z => h3 (z.imp id (Or.imp .inl id)), h4.m fun b z _ => z.imp id (Or.imp .inl id)⟩
theorem tM_bind {α : Type} {f : En → Res (List Ai)} {g : List Ai → En → Res α} {Q : List V → Hp → Prop} {R : α → En → Prop} {E : Str → D → En → Prop} (er : ER K c σ H ρ) (h : wpR ((f ρ).bind g) R E) (hE : ∀ n d ρ', E n d ρ' → EX K C W c σ H ρ n d ρ')
    (k : ∀ as ρ1 vs H1 ps, Step K c σ H ρ H1 ρ1 → ER K (c.mores ps) σ H1 ρ1 → (∀ a ∈ ps, H a = none) → ps.Nodup → AR K (OO (c.mores ps) σ ρ1) H1 vs as ps → wpR (g as ρ1) R E → Q vs H1) : tM K C W f σ H Q :=
  ⟨c, ρ, er, wpR_mono (wpR_bind.mp h) (fun d ρ1 q vs H1 ps s r a b c => k d ρ1 vs H1 ps s r a b c q) hE⟩
theorem m_nil : PA X [] (tM X.K C W mNil) := pa_nil.imp fun σ H Q ⟨c, ρ, er, q⟩ => q [] H [] er.step (er.zle rfl rfl rfl fun b z => z.elim id fun z => by cases z) (fun _ z => by cases z) List.nodup_nil .nil
theorem m_vl {f : En → Res D} {g : En → Res (List Ai)} (h : PE X e (tD X.K C W f)) (h2 : PA X es (tM X.K C W g)) (hs : starEach (e :: es) X.env = (false, eval e X.env) :: starEach es X.env := by rfl) :
    PA X (e :: es) (tM X.K C W (mVl f g)) := (pa_cons h h2 hs).imp fun σ H Q ⟨c, ρ, er, q⟩ => by
  refine tD_bind er q fun d ρ1 v H1 s1 r1 q1 => ?_
  refine tM_bind s1.er q1 (fun _ _ _ x => x.after s1) fun as ρ2 vs H2 ps s2 em hn nd ar q2 => ?_
  refine q2 (v :: vs) H2 ps (s1.trans s2) em (fun a ha => s1.good.free (hn a ha)) nd (.vl ?_ ar)
  have r2 : Rep X.K (OO (c.mores ps) σ ρ1) H1 v d := r1.m fun b z hb => by
    rcases z with z | (z | z) | z
    · exact .inl z
    · exact .inr (.inl z)
    · exact absurd (hn b z) hb
    · exact .inr (.inr z)
  exact (r2.g (s2.good.mono fun b z => .inr (.inr z))).m fun b z _ => z.imp id (Or.imp id (s2.le b))
theorem m_nw {f : En → Res (List D)} {g : En → Res (List Ai)} (h : PE X e (tF X.K C W f)) (h2 : PA X es (tM X.K C W g)) (hs : starEach (e :: es) X.env = (false, eval e X.env) :: starEach es X.env := by rfl) :
    PA X (e :: es) (tM X.K C W (mNw f g)) := (pa_cons h h2 hs).imp fun σ H Q ⟨c, ρ, er, q⟩ => by
  refine tF_bind er q fun d ρ1 a us H1 s1 ha he em1 r1 q1 => ?_
  refine tM_bind em1 q1 (fun _ _ _ x => (x.after s1).more) fun as ρ2 vs H2 ps s2 em hn nd ar q2 => ?_
  have hz : ∀ b, (c.mores (a :: ps)).Z b → ((c.more a).mores ps).Z b := fun b z => by
    rcases z with z | z
    · exact .inl (.inl z)
    · rcases List.mem_cons.mp z with z | z
      · exact .inl (.inr z)
      · exact .inr z
  have a2 : a ∉ ps := fun z => by have := hn a z; rw [he] at this; cases this
  have mz : ∀ b, OO (c.mores (a :: ps)) σ ρ2 b → OO ((c.more a).mores ps) σ ρ2 b := fun b z => z.imp id (Or.imp (hz b) id)
  refine q2 (.ref a :: vs) H2 (a :: ps) (s1.trans s2.less) (em.zle rfl rfl rfl hz) (fun b hb => ?_) (List.nodup_cons.mpr ⟨a2, nd⟩) (.nw (us := us) ?_ ?_ (ar.m fun b z _ => mz b z))
  · rcases List.mem_cons.mp hb with z | z
    · rw [z]; exact ha
    · exact s1.good.free (hn b z)
  · exact s2.good.keep a _ he fun z => em1.zo a (.inr rfl) z
  · have r2 : Reps X.K (OO ((c.more a).mores ps) σ ρ1) H1 us d := r1.m fun b z hb => by
      rcases z with z | (z | z) | z
      · exact .inl z
      · exact .inr (.inl z)
      · exact absurd (hn b z) hb
      · exact .inr (.inr z)
    exact (r2.g (s2.good.mono fun b z => .inr (.inr z))).m fun b z _ => (mz b z).imp id (Or.imp id (s2.le b))
@[simp] def stA : List Nat → List Ai → En → En
  | i :: is, .vl d :: as, ρ => stA is as (ρ.set i (.fz d))
  | i :: is, .nw d :: as, ρ => stA is as (ρ.set i (.ow d))
  | _, _, ρ => ρ
def stV : List Nat → List V → Sg → Sg
  | i :: is, v :: vs, σ => stV is vs (σ.set i (some v))
  | _, _, σ => σ
theorem AR.stored {vs : List V} {as : List Ai} {ps : List Addr} : ∀ {is : List Nat} {σ : Sg} {ρ : En}, AR K (OO (c.mores ps) σ ρ) H vs as ps → ER K (c.mores ps) σ H ρ → (∀ a ∈ ps, ¬ c.Z a) → ps.Nodup → is.length = as.length → (∀ i ∈ is, i < ρ.length) →
    ER K c (stV is vs σ) H (stA is as ρ) ∧ ∀ b, own (stV is vs σ) (stA is as ρ) b → own σ ρ b ∨ b ∈ ps := by
  induction as generalizing vs ps with
  | nil =>
    intro is σ ρ h er _ _ hl _
    cases h
    have : is = [] := List.length_eq_zero_iff.mp hl
    subst this
    exact ⟨er.zle rfl rfl rfl fun b z => .inl z, fun b z => .inl z⟩
  | cons x as ih =>
    intro is σ ρ h er hz nd hl hi
    cases is with
    | nil => cases hl
    | cons i is =>
      have hl2 : is.length = as.length := by simpa using hl
      cases h with
      | vl r h =>
        rename_i v d vs
        obtain ⟨e1, e2⟩ := er.setFz (i := i) r
        obtain ⟨h1, h2⟩ := ih (is := is) (h.m fun b z _ => z.imp id (Or.imp id (e2 b))) e1 hz nd hl2 fun j hj => by rw [List.length_set]; exact hi j (List.mem_cons_of_mem _ hj)
        exact ⟨h1, fun b z => (h2 b z).imp (e2 b) id⟩
      | nw e r h =>
        rename_i a us ds vs ps
        have nd2 := List.nodup_cons.mp nd
        have eqz : ∀ b, ((c.mores ps).more a).Z b → (c.mores (a :: ps)).Z b := fun b z => by
          rcases z with (z | z) | z
          · exact .inl z
          · exact .inr (List.mem_cons_of_mem _ z)
          · exact .inr (List.mem_cons.mpr (.inl z))
        have er' : ER K ((c.mores ps).more a) σ H ρ := er.zle rfl rfl rfl eqz
        obtain ⟨e1, e2⟩ := er'.setOw (i := i) (fun z => z.elim (hz a (List.mem_cons_self ..)) nd2.1) e (r.m fun b z _ => z.imp id (Or.imp (eqz b) id)) (hi i (List.mem_cons_self ..))
        have hm : ∀ b, OO (c.mores ps) (σ.set i (some (.ref a))) (ρ.set i (.ow ds)) b → OO (c.mores (a :: ps)) σ ρ b := fun b z => by
          rcases z with z | (z | z) | z
          · exact .inl z
          · exact .inr (.inl (.inl z))
          · exact .inr (.inl (.inr (List.mem_cons_of_mem _ z)))
          · exact (e2 b z).elim (fun z => .inr (.inr z)) fun z => .inr (.inl (.inr (List.mem_cons.mpr (.inl z))))
        obtain ⟨h1, h2⟩ := ih (is := is) (h.m fun b z _ => hm b z) e1 (fun b hb => hz b (List.mem_cons_of_mem _ hb)) nd2.2 hl2 fun j hj => by rw [List.length_set]; exact hi j (List.mem_cons_of_mem _ hj)
        refine ⟨h1, fun b z => ?_⟩
        rcases h2 b z with z | z
        · exact (e2 b z).imp id fun z => List.mem_cons.mpr (.inl z)
        · exact .inr (List.mem_cons_of_mem _ z)
theorem AR.len {O : Addr → Prop} {vs : List V} {as : List Ai} {ps : List Addr} (h : AR K O H vs as ps) : as.length = vs.length := by
  induction h with
  | nil => rfl
  | vl _ _ ih => simp [ih]
  | nw _ _ _ ih => simp [ih]
@[simp] def sPar (is : List Nat) (f : En → Res (List Ai)) : En → Res Fl := fun ρ => (f ρ).bind fun as ρ' => if is.length = as.length ∧ ∀ i ∈ is, i < ρ'.length then .ok .nx (stA is as ρ') else .no
theorem par_imp {is : List Nat} {f : En → Res (List Ai)} {Dn : Ends} {σ : Sg} {H : Hp} (h : tS K C W (sPar is f) Dn σ H) : tM K C W f σ H fun vs H1 => is.length = vs.length ∧ Dn.nx (stV is vs σ) H1 := by
  obtain ⟨c, ρ, er, q⟩ := h
  refine tM_bind er q (fun _ _ _ x => x.ex) fun as ρ1 vs H1 ps s em hn nd ar q => ?_
  obtain ⟨⟨hl, hi⟩, q⟩ := wpR_ite q
  have hz : ∀ a ∈ ps, ¬ c.Z a := fun a ha z => er.zt a z (hn a ha)
  obtain ⟨e1, e2⟩ := AR.stored (is := is) ar em hz nd hl hi
  refine ⟨hl.trans ar.len, ?_⟩
  exact q _ H1 ⟨s.good, fun b z => (e2 b z).imp (s.le b) (hn b), e1⟩
theorem s_par2 (i j : Nat) {x y : Str} {a b : Expr} {f : En → Res (List Ai)} {px py pt : Pos} {kt k2 pt2} (hc : X.calm = true) (hN : X.N.Nodup) (ha : PA X [a, b] (tM X.K C W f)) (hi : X.N[i]? = some x := by rfl) (hj : X.N[j]? = some y := by rfl) (hij : i ≠ j := by decide)
    (hx : X.env.scope.names.lookup x = some .local := by rfl) (hy : X.env.scope.names.lookup y = some .local := by rfl)
    (hw : swappedStores [.Tuple [.Name x px, .Name y py] kt pt] (.Tuple [a, b] k2 pt2) X.env = pure (some [x, y]) := by rfl)
    (hs : swapsWithSole [.Tuple [.Name x px, .Name y py] kt pt] (.Tuple [a, b] k2 pt2) pos.line X.env = pure false := by rfl) :
    PS X (.Assign [.Tuple [.Name x px, .Name y py] kt pt] (.Tuple [a, b] k2 pt2) pos) (tS X.K C W (sPar [i, j] f)) := (ps_par hc hN hi hj hij hx hy ha hw hs).imp fun Dn σ H h => by
  obtain ⟨c, ρ, er, q⟩ := par_imp h
  refine ⟨c, ρ, er, wpR_mono q (fun as ρ' z vs H' ps h1 h2 h3 h4 h5 => ?_) fun _ _ _ x => x⟩
  obtain ⟨hl, hq⟩ := z vs H' ps h1 h2 h3 h4 h5
  match vs, hl with
  | [v, w], _ => exact ⟨v, w, rfl, hq⟩
theorem s_par3 (i j l : Nat) {x y z : Str} {a b d : Expr} {f : En → Res (List Ai)} {px py pz pt : Pos} {kt k2 pt2} (hc : X.calm = true) (hN : X.N.Nodup) (ha : PA X [a, b, d] (tM X.K C W f)) (hi : X.N[i]? = some x := by rfl) (hj : X.N[j]? = some y := by rfl) (hl : X.N[l]? = some z := by rfl) (hij : i ≠ j := by decide) (hil : i ≠ l := by decide) (hjl : j ≠ l := by decide)
    (hx : X.env.scope.names.lookup x = some .local := by rfl) (hy : X.env.scope.names.lookup y = some .local := by rfl) (hz : X.env.scope.names.lookup z = some .local := by rfl)
    (hw : swappedStores [.Tuple [.Name x px, .Name y py, .Name z pz] kt pt] (.Tuple [a, b, d] k2 pt2) X.env = pure (some [x, y, z]) := by rfl)
    (hs : swapsWithSole [.Tuple [.Name x px, .Name y py, .Name z pz] kt pt] (.Tuple [a, b, d] k2 pt2) pos.line X.env = pure false := by rfl) :
    PS X (.Assign [.Tuple [.Name x px, .Name y py, .Name z pz] kt pt] (.Tuple [a, b, d] k2 pt2) pos) (tS X.K C W (sPar [i, j, l] f)) := (ps_par3 hc hN hi hj hl hij hil hjl hx hy hz ha hw hs).imp fun Dn σ H h => by
  obtain ⟨c, ρ, er, q⟩ := par_imp h
  refine ⟨c, ρ, er, wpR_mono q (fun as ρ' z vs H' ps h1 h2 h3 h4 h5 => ?_) fun _ _ _ x => x⟩
  obtain ⟨hl, hq⟩ := z vs H' ps h1 h2 h3 h4 h5
  match vs, hl with
  | [v, w, u], _ => exact ⟨v, w, u, rfl, hq⟩
end
end DL

namespace DL
open PySem PySem.Spec PyProof.Rows L2

/-! ### enumerate over a list, a tuple, a text -/
inductive Src where
  | l (a : Addr) (xs : List V) | t (a : Addr) (xs : List V) | s (x : Str)
def Src.stand (K : PySem.W.Frag) (H : Hp) : Src → Prop
  | .l a xs => SqL K H a xs
  | .t a xs => SqT K H a xs
  | .s _ => True
def Src.its : Src → List V
  | .l _ xs => xs
  | .t _ xs => xs
  | .s x => x.cps.toList.map fun c => .str ⟨#[c]⟩
def Src.on (h : Heap) (it : Addr) (i : Nat) : Src → Prop
  | .l a _ => h.IsListIter it a i
  | .t a _ => h.IsTupleIter it a i
  | .s x => ∃ t, h.IsStrIter it (strIterType x) x t i
def Src.of (r : Src) (v : Value) : Prop := match r with
  | .l a _ => v = .ref a
  | .t a _ => v = .ref a
  | .s x => ∃ t, v = .str x t
section
variable {X : Cx} {pins : List (Addr × Obj)} {σ : Sg} {H : Hp} {s : Shared}
theorem Src.draws {r : Src} (I : Inv X pins σ H s) (S : r.stand X.K H) (hd : X.A.handled = none) {e it : Addr} {i : Nat} {c : Int} {old : Value} (he : IsEnum s.heap e it c old) (hit : r.on s.heap it i) (hne : e ≠ it) :
    ∃ (fp : List Addr) (P : Nat → Value → Prop) (St : Nat → Heap → Prop), Draws X.prog X.w X.A.in1 it fp r.its.length P St ∧ St i s.heap ∧ (∀ j v, P j v → ∃ x, r.its[j]? = some x ∧ RelV x v) ∧ (∀ j h', St j h' → r.on h' it j) ∧ e ∉ fp := by
  cases r with
  | l a xs =>
    obtain ⟨its, rv, p, _⟩ := I.list S
    obtain ⟨o, n, ho, hc, _, _⟩ := id p
    have hit' : s.heap.IsListIter it a i := hit
    have ea : e ≠ a := fun z => by
      have h2 := (z ▸ he : IsEnum s.heap a it c old)
      have h3 := ho.symm.trans h2
      injection h3 with h3
      rw [h3] at hc; injection hc with hc; exact absurd hc (by decide)
    have ia : a ≠ it := fun z => by
      obtain ⟨o2, h2, hc2, _⟩ := id hit'
      rw [← z, ho] at h2; cases h2; rw [hc] at hc2; injection hc2 with hc2; exact absurd hc2 (by decide)
    have D := Draws.list (prog := X.prog) (w := X.w) (A := X.A.in1) hd it a ia its.toArray
    rw [List.size_toArray, ← rv.length] at D
    refine ⟨_, _, _, D, ⟨hit', p.isList⟩, fun j v hv => ?_, fun j h' st => st.1, by simp [hne, ea]⟩
    have hv : its[j]? = some v := by simpa using hv
    have hj : j < xs.length := by rw [rv.length]; exact (List.getElem?_eq_some_iff.mp hv).1
    obtain ⟨u, hu, ru⟩ := rv.get (List.getElem?_eq_getElem hj)
    rw [hv] at hu; cases hu
    exact ⟨_, List.getElem?_eq_getElem hj, ru⟩
  | t a xs =>
    obtain ⟨its, rv, p, _⟩ := I.tuple S
    obtain ⟨o, ho, hc, _⟩ := id p
    have hit' : s.heap.IsTupleIter it a i := hit
    have ea : e ≠ a := fun z => by
      have h2 := (z ▸ he : IsEnum s.heap a it c old)
      have h3 := ho.symm.trans h2
      injection h3 with h3
      rw [h3] at hc; injection hc with hc; exact absurd hc (by decide)
    have ia : a ≠ it := fun z => by
      obtain ⟨o2, h2, hc2, _⟩ := id hit'
      rw [← z, ho] at h2; cases h2; rw [hc] at hc2; injection hc2 with hc2; exact absurd hc2 (by decide)
    have D := Draws.tuple (prog := X.prog) (w := X.w) (A := X.A.in1) hd it a ia its.toArray
    rw [List.size_toArray, ← rv.length] at D
    refine ⟨_, _, _, D, ⟨hit', p⟩, fun j v hv => ?_, fun j h' st => st.1, by simp [hne, ea]⟩
    have hv : its[j]? = some v := by simpa using hv
    have hj : j < xs.length := by rw [rv.length]; exact (List.getElem?_eq_some_iff.mp hv).1
    obtain ⟨u, hu, ru⟩ := rv.get (List.getElem?_eq_getElem hj)
    rw [hv] at hu; cases hu
    exact ⟨_, List.getElem?_eq_getElem hj, ru⟩
  | s x =>
    obtain ⟨t, hit⟩ := hit
    have D := Draws.text (prog := X.prog) (w := X.w) (A := X.A.in1) hd it x t
    have hl : (Src.s x).its.length = x.cps.size := by simp [Src.its]
    rw [hl]
    refine ⟨_, _, _, D, hit, fun j v hv => ?_, fun j h' st => ⟨t, st⟩, by simp [hne]⟩
    obtain ⟨c, u, hc, rfl⟩ := hv
    exact ⟨.str ⟨#[c]⟩, by simp [Src.its, hc], ⟨u, rfl⟩⟩
def ItE (K : PySem.W.Frag) (k : Int) (r : Src) : It :=
  ⟨fun i H => r.stand K H ∧ i < r.its.length, fun i H v H' => ∃ T x, v = .ref T ∧ H T = none ∧ H' = upd H T (.tup [.int (k + (i : Nat)), x]) ∧ r.its[i]? = some x, fun i H => r.stand K H ∧ i = r.its.length⟩
theorem turn_enumF {P : Program} {w : World} {K : PySem.W.Frag} {elts : List Expr} {kk : Nat} {tpos : Pos} (k : Int) (r : Src) (e it : Addr) :
    Turn P w K (.Tuple elts kk tpos) (ItE K k r) [e, it] e (fun i h => (∃ old, IsEnum h e it (k + ((i : Nat) : Int)) old) ∧ r.on h it i ∧ e ≠ it) where
  mem := by simp
  obj := fun i h st b hb => by
    obtain ⟨⟨old, he⟩, hit, _⟩ := st
    have e' : b = e ∨ b = it := by simpa using hb
    rcases e' with z | z
    · rw [z]; exact ⟨_, he, fun v q => nomatch q⟩
    · rw [z]
      cases r with
      | l a xs => obtain ⟨o, ho, hc, hd⟩ := hit; exact ⟨o, ho, fun v q => by rw [hd] at q; cases q⟩
      | t a xs => obtain ⟨o, ho, hc, hd⟩ := hit; exact ⟨o, ho, fun v q => by rw [hd] at q; cases q⟩
      | s x => obtain ⟨t, o, ho, hc, hd⟩ := hit; exact ⟨o, ho, fun v q => by rw [hd] at q; cases q⟩
  keep := fun i h h' st q => by
    obtain ⟨⟨old, he⟩, hit, hne⟩ := st
    refine ⟨⟨old, q e (by simp) _ he⟩, ?_, hne⟩
    cases r with
    | l a xs => exact Heap.IsListIter.at hit fun o y => q it (by simp) o y
    | t a xs => exact Heap.IsTupleIter.at hit fun o y => q it (by simp) o y
    | s x => obtain ⟨t, o, ho, r⟩ := hit; exact ⟨t, o, q it (by simp) o ho, r⟩
  item := by
    intro X hP hw hK hc i pins s σ H E I hf st hg
    subst hP hw hK
    obtain ⟨⟨old, he⟩, hit, hne⟩ := st
    obtain ⟨S, hi⟩ := hg
    obtain ⟨fp, P, St, D, hst, hPx, hSt, hef⟩ := r.draws I S (I.ok.hd hc) he hit hne
    have hel : e < s.heap.objs.size := Heap.lt_size he
    refine wpAny_pyNext_enum_itemC D he hst hi hne hef fun u h' tk hP ho hit' hT hsz hk => ?_
    obtain ⟨x, hx, ru⟩ := hPx i u hP
    refine ⟨_, rfl, wpAny_letOwnedTupleGo_enum (s := { s with heap := h', toks := tk + 1 }) ho fun h'' he' sb => ?_⟩
    have hT2 : h''.get? s.heap.objs.size = some { cls := .type "tuple", data := .seq #[.int (k + (i : Nat)) tk, u] } := (sb.2 _ (Nat.ne_of_gt hel)).trans hT
    have new : ObjOk X.prog X.w (upd H s.heap.objs.size (.tup [.int (k + (i : Nat)), x])) h'' s.heap.objs.size (.tup [.int (k + (i : Nat)), x]) :=
      ⟨by show 2 ≤ sizeLine; decide, [.int (k + (i : Nat)) tk, u], .cons ⟨_, rfl⟩ (.cons ru .nil), ⟨_, hT2, rfl, _, rfl⟩⟩
    have I1 : Inv X pins σ (upd H s.heap.objs.size (.tup [.int (k + (i : Nat)), x])) { s with heap := h'', toks := tk + 1 } :=
      I.turnedNew (ch := [e, it]) (fun b ob hb q => (sb.2 b (fun z => hb (by simp [z]))).trans (hk b ob (fun z => hb (by simp [z])) (fun z => hb (by simp [z])) q)) hf (Nat.le_refl _) new
    have on' : r.on h'' it (i + 1) := by
      have z := hSt (i + 1) h' hit'
      cases r with
      | l a xs => exact Heap.IsListIter.at z fun o q => (sb.2 it (Ne.symm hne)).trans q
      | t a xs => exact Heap.IsTupleIter.at z fun o q => (sb.2 it (Ne.symm hne)).trans q
      | s x => obtain ⟨t, o, ho, r⟩ := z; exact ⟨t, o, (sb.2 it (Ne.symm hne)).trans ho, r⟩
    have hil : it < s.heap.objs.size := by obtain ⟨_, q⟩ := D.live _ _ hst; exact Heap.lt_size q
    refine ⟨.ref s.heap.objs.size, _, I1, rfl, ⟨_, x, rfl, I.hok.fresh (Nat.le_refl _), rfl, hx⟩, ⟨⟨u, ?_⟩, on', hne⟩, fun b hb => ?_⟩
    · have e1 : k + ((i + 1 : Nat) : Int) = k + (i : Int) + 1 := by omega
      rw [e1]; exact he'
    · have hb' : b < s.heap.objs.size := by
        have e' : b = e ∨ b = it := by simpa using hb
        rcases e' with z | z
        · rw [z]; exact hel
        · rw [z]; exact hil
      rw [upd_ne (Nat.ne_of_lt hb')]
      exact (hf b hb).1
  done := by
    intro X hP hw hK hc i pins s σ H E I hf st hg
    subst hP hw hK
    obtain ⟨⟨old, he⟩, hit, hne⟩ := st
    obtain ⟨S, hi⟩ := hg
    obtain ⟨fp, P, St, D, hst, hPx, hSt, hef⟩ := r.draws I S (I.ok.hd hc) he hit hne
    obtain ⟨f0, f1, f2, f3, f4, f5⟩ := hf it (by simp)
    rw [hi] at hst
    exact wpAny_pyNext_enum_endD D he hst fun h' eb => ⟨rfl, I.turned (t' := s.toks) (fun b o hb q => eb b o hb q) f0 f1 f3 f4 f5⟩
  self := fun A i s Q E st h => let ⟨⟨_, he⟩, _⟩ := st; wpAny_pyIter_enum he h
def iEn2 (K : PySem.W.Frag) (ta : TA) : TI := fun σ H R => ta σ H fun vs H1 => ∃ v k r, vs = [v, .int k] ∧ (∀ u, RelV v u → Src.of r u) ∧ r.stand K H1 ∧ -(2 ^ 62) ≤ k ∧ k < 2 ^ 62 ∧ R (ItE K k r) H1
theorem pi_enum2 {e e2 : Expr} {ta : TA} {p pos tpos : Pos} {elts : List Expr} {kk : Nat} (hg : Gl X "enumerate") (hm : X.mg "enumerate" = none) (ha : PA X [e, e2] ta) (hs : starEach [e, e2] X.env = (false, eval e X.env) :: starEach [e2] X.env := by rfl) (hpl : (backTo pos (starEach [e2] X.env)).any (·.1) = false := by rfl) :
    PI X (.Tuple elts kk tpos) (.Call (.Name "enumerate" p) [e, e2] [] pos) (iEn2 X.K ta) := by
  refine ⟨fun pins s σ H R I h => ?_⟩
  refine Call_ (ld_blt I hg hm boot_enumerate (PyProof.Rows.callWith_type1 (thn (ha.run pos pins s σ H _ I h) fun us s1 ⟨vs, H1, I1, r1, q1⟩ => ?_) hs hpl))
  obtain ⟨v, k, r, ex, hv, S, k0, k1, q⟩ := q1
  subst ex
  cases r1 with
  | cons rv rr =>
    cases rr with
    | cons rk rr =>
      cases rr
      obtain ⟨t, rfl⟩ := rk
      have hof := hv _ rv
      have fin : ∀ h', IsEnum h' (s1.heap.objs.size + 1) s1.heap.objs.size k .none → r.on h' s1.heap.objs.size 0 → (∀ b o, s1.heap.get? b = some o → h'.get? b = some o) → PIE X pins σ (.Tuple elts kk tpos) R (.ref (s1.heap.objs.size + 1)) { s1 with heap := h' } := fun h' he hit hk => by
        have I2 : Inv X pins σ H1 { s1 with heap := h' } := I1.kept (t' := s1.toks) hk
        have e0 : k + ((0 : Nat) : Int) = k := by omega
        refine ⟨s1.heap.objs.size + 1, [s1.heap.objs.size + 1, s1.heap.objs.size], _, _, H1, rfl, I2, turn_enumF k r (s1.heap.objs.size + 1) s1.heap.objs.size, ⟨⟨.none, by rw [e0]; exact he⟩, hit, Nat.succ_ne_self _⟩, fun b hb => ?_, q⟩
        have e' : b = s1.heap.objs.size + 1 ∨ b = s1.heap.objs.size := by simpa using hb
        have hle : s1.heap.objs.size ≤ b := by
          rcases e' with z | z
          · rw [z]; exact Nat.le_add_right _ _
          · rw [z]; exact Nat.le_refl _
        exact I1.fpOk hle (I1.hok.fresh hle)
      cases r with
      | l a xs =>
        cases hof
        obtain ⟨its, rv, p', hz⟩ := I1.list S
        exact enum_begins (begins_list a its.toArray) p'.isList (by omega) (by omega) fun h' he ho hsz hk => wpAny_pyIter_enum he (fin h' he ⟨_, ho, rfl, rfl⟩ hk)
      | t a xs =>
        cases hof
        obtain ⟨its, rv, p', hz⟩ := I1.tuple S
        exact enum_begins (begins_tuple a its.toArray) p' (by omega) (by omega) fun h' he ho hsz hk => wpAny_pyIter_enum he (fin h' he ⟨_, ho, rfl, rfl⟩ hk)
      | s x =>
        obtain ⟨t', rfl⟩ := hof
        exact enum_begins (begins_text x t') trivial (by omega) (by omega) fun h' he ho hsz hk => wpAny_pyIter_enum he (fin h' he ⟨t', _, ho, rfl, rfl⟩ hk)
end
section
variable {X : Cx} {C : Ck} {W : L2.WX} {pos : Pos} {K : PySem.W.Frag}
def enumD (k : Int) (l : List D) : List D := (List.range l.length).map fun i => .tup [.int (k + (i : Nat)), l.getD i .non]
theorem walk_enum {O : Addr → Prop} {H1 : Hp} {k : Int} {r : Src} {l : List D} (hs : ∀ H, (∀ b o, H1 b = some o → ¬ O b → H b = some o) → r.stand K H) (rl : Reps K O H1 r.its l) : Walk K (ItE K k r) (enumD k l) O H1 := fun i H O2 hk m hO2 => by
  have hlen : (enumD k l).length = r.its.length := by unfold enumD; simp; exact rl.length.symm
  refine ⟨fun e => ⟨hs H hk, by rw [e, hlen]⟩, fun d hd => ?_⟩
  unfold enumD at hd
  rw [List.getElem?_map, Option.map_eq_some_iff] at hd
  obtain ⟨j, hj, rfl⟩ := hd
  obtain ⟨h1, h2⟩ := List.getElem?_eq_some_iff.mp hj
  rw [List.length_range] at h1
  rw [List.getElem_range] at h2
  subst h2
  refine ⟨⟨hs H hk, by rw [rl.length]; exact h1⟩, fun x H' y => ?_⟩
  obtain ⟨T, v, rfl, hT, rfl, hv⟩ := y
  have hd : l[i]? = some (l.getD i .non) := by simp [List.getD, h1]
  obtain ⟨v', hv', rv⟩ := rl.get hd
  rw [hv] at hv'; cases hv'
  have rv2 : Rep K O2 H v (l.getD i .non) := rep_turn rv hk m fun _ _ _ => .inr trivial
  refine ⟨grow_upd hT, new_tup hO2 hT (.cons (.int _) (.cons rv2 .nil))⟩
@[simp] def dEn (f : En → Res (List D)) : En → Res (List D) := fun ρ => (f ρ).bind fun ds ρ' => match ds with
  | [d, .int k] => if -LR ≤ k ∧ k ≤ LR then optR (itemsD d) fun l => .ok (enumD k l) ρ' else .no
  | _ => .no
theorem src_of {O : Addr → Prop} {H1 : Hp} {v : V} {d : D} {l : List D} (r : Rep K O H1 v d) (h : itemsD d = some l) : ∃ s : Src, (∀ u, RelV v u → s.of u) ∧ Reps K O H1 s.its l ∧ ∀ H, (∀ b o, H1 b = some o → ¬ O b → H b = some o) → s.stand K H := by
  unfold itemsD at h
  split at h
  · cases h
    obtain ⟨p, xs, rfl, t, r⟩ := r.lstV
    exact ⟨.l p xs, fun u h => h, r, fun H k => SqL.turn t.1 (.inl t.2) k⟩
  · cases h
    obtain ⟨p, xs, rfl, t, r⟩ := r.tupV
    refine ⟨.t p xs, fun u h => h, r, fun H k => ?_⟩
    rcases t with ⟨n, t⟩ | t
    · exact .inl (t.imp (fun e => k _ _ e n) fun ⟨o, e⟩ => ⟨o, k _ _ e n⟩)
    · exact .inr t
  · cases h
    rename_i x
    have o := r.strOk
    rw [r.strV]
    refine ⟨.s (toS x), fun u h => h, ?_, fun H k => trivial⟩
    show Reps K O H1 ((toS x).cps.toList.map fun c => .str ⟨#[c]⟩) (chars x)
    rw [toS_list]
    unfold chars
    have : ∀ y : List Nat, (∀ c ∈ y, c ∈ x) → Reps K O H1 (y.map fun c => V.str ⟨#[c]⟩) (y.map fun c => D.str [c]) := by
      intro y
      induction y with
      | nil => intro _; exact .nil
      | cons c y ih => intro h; exact .cons (.str [c] (okS_one o (h c (List.mem_cons_self ..)))) (ih fun b hb => h b (List.mem_cons_of_mem _ hb))
    exact this x fun _ h => h
  · cases h
    obtain ⟨p, rfl, t⟩ := r.scrV
    rename_i ns
    refine ⟨.l p (ns.map V.int), fun u h => h, Reps.ints _, fun H k => ?_⟩
    rcases t with ⟨n, o, t⟩ | t
    · exact SqL.turn n (.inr ⟨o, t⟩) k
    · exact .inr t
  · cases h
theorem i_enum2 {a b : Expr} {p tpos : Pos} {elts : List Expr} {kk : Nat} {f : En → Res (List D)} (hm : X.mg "enumerate" = none) (ha : PA X [a, b] (tA X.K C W f)) (hg : Gl X "enumerate" := by rfl) (hs : starEach [a, b] X.env = (false, eval a X.env) :: starEach [b] X.env := by rfl) (hpl : (backTo pos (starEach [b] X.env)).any (·.1) = false := by rfl) :
    PI X (.Tuple elts kk tpos) (.Call (.Name "enumerate" p) [a, b] [] pos) (tI X.K C W (dEn f)) := (pi_enum2 hg hm ha hs hpl).imp fun σ H R ⟨c, ρ, er, q⟩ => by
  refine tA_bind er q fun ds ρ1 vs H1 s r q => ?_
  split at q
  · obtain ⟨h, q⟩ := wpR_ite q
    obtain ⟨l, hl, q⟩ := wpR_opt q
    replace r := reps2 r
    obtain ⟨v, w, rfl, r, r2⟩ := r
    unfold LR at h
    obtain ⟨sr, h1, h2, h3⟩ := src_of r hl
    exact ⟨v, _, sr, by rw [r2.intV], h1, h3 H1 fun _ _ h _ => h, by omega, by omega, q _ H1 s (walk_enum h3 h2)⟩
  · exact q.elim
/-! ### range with a step -/
@[simp] def dR3 (f : En → Res (List D)) : En → Res (List D) := fun ρ => (f ρ).bind fun ds ρ' => match ds with
  | [.int i, .int j, .int c] => if c ≠ 0 ∧ c.natAbs < 1073741824 ∧ Builtin.Range.small i j c = true then .ok (rangeC i c (Builtin.Range.rangeSize i j c).toNat) ρ' else .no
  | _ => .no
theorem rangeSize_nn (i j c : Int) : 0 ≤ Builtin.Range.rangeSize i j c := by
  unfold Builtin.Range.rangeSize
  split
  · split
    · have : 0 ≤ (j - i - 1) / c := Int.ediv_nonneg (by omega) (by omega)
      omega
    · exact Int.le_refl 0
  · split
    · have : 0 ≤ (i - j - 1) / (-c) := Int.ediv_nonneg (by omega) (by omega)
      omega
    · exact Int.le_refl 0
theorem i_range3 {tg a b d : Expr} {p : Pos} {f : En → Res (List D)} (hm : X.mg "range" = none) (ha : PA X [a, b, d] (tA X.K C W f)) (hg : Gl X "range" := by rfl) (hs : starEach [a, b, d] X.env = (false, eval a X.env) :: starEach [b, d] X.env := by rfl) (hpl : (backTo pos (starEach [b, d] X.env)).any (·.1) = false := by rfl) :
    PI X tg (.Call (.Name "range" p) [a, b, d] [] pos) (tI X.K C W (dR3 f)) := (pi_range3 hg hm ha hs hpl).imp fun σ H R ⟨c, ρ, er, q⟩ => by
  refine tA_bind er q fun ds ρ1 vs H1 s r q => ?_
  split at q
  · obtain ⟨⟨h1, h2, h3⟩, q⟩ := wpR_ite q
    cases r with | cons ra r => cases r with | cons rb r => cases r with | cons rc r =>
    cases r
    refine ⟨_, _, _, _, by rw [ra.intV, rb.intV, rc.intV], ⟨h1, h2, h3, ?_⟩, q _ H1 s walk_rngC⟩
    rw [Int.toNat_of_nonneg (rangeSize_nn _ _ _)]
  · exact q.elim
end
end DL

namespace DL
open PySem PySem.Spec PyProof.Rows L2
/-- a constant of the top -/
def GlD (K : PySem.W.Frag) (mg : Str → Option Value) (x : Str) (d : D) : Prop := ∃ (v : V) (u : Value), mg x = some u ∧ RelV v u ∧ ∀ O H, Rep K O H v d
section
variable {X : Cx} {C : Ck} {W : L2.WX} {pos : Pos}
theorem d_glE {x : Str} {d : D} (h : GlD X.K X.mg x d) (hg : Gl X x := by rfl) (hd : (x == ("__debug__" : Str)) = false := by decide) : PE X (.Name x pos) (tD X.K C W (dC d)) := by
  obtain ⟨v, u, hm, rv, r⟩ := h
  exact d_glob hg hm rv r hd
theorem gl_int {K : PySem.W.Frag} {mg : Str → Option Value} {x : Str} {i : Int} (h : ∃ t, mg x = some (.int i t)) : GlD K mg x (.int i) := by
  obtain ⟨t, h⟩ := h
  exact ⟨.int i, _, h, ⟨t, rfl⟩, fun _ _ => .int i⟩
theorem gl_str {K : PySem.W.Frag} {mg : Str → Option Value} {x z : Str} (l : List Nat) (h : ∃ t, mg x = some (.str z t)) (e : z = toS l) (o : okS l = true) : GlD K mg x (.str l) := by
  obtain ⟨t, h⟩ := h
  subst e
  exact ⟨.str _, _, h, ⟨t, rfl⟩, fun _ _ => .str l o⟩
end
abbrev FnP (K : PySem.W.Frag) (x : Str) (st : Stmt) (f : Addr) (fd : FuncData) : Prop := FunD K x x (defArgs st) (defBody st) (defScope st) [] [] f fd
theorem cl_of {P : Program} {w : World} {K : PySem.W.Frag} {mg : Str → Option Value} {base : Heap} {k : Nat} {x : Str} {st : Stmt} {f : Addr} {fd : FuncData} {ps : List Str} {sp : Sp} (F : FnP K x st f fd) (hm : mg x = some (.ref f)) (ok : FnOk P w K mg base CX0 k f fd ps sp)
    (h : ∀ (kV doc pm : Value) (an : Option Addr) (cdv ct : Value) (us : List Value), us.length = ps.length → bindArgs (PySem.W.fnOf x x (defArgs st) (defBody st) (defScope st) .none kV doc pm an cdv ct) ⟨us, []⟩ = pure (ps.zip us)) : Cl P w K mg base k x sp :=
  ⟨f, fd, ps, ok, hm, F.kp, F.bindsN h⟩
theorem clK_of {P : Program} {w : World} {K : PySem.W.Frag} {mg : Str → Option Value} {base : Heap} {k n : Nat} {ks : List Str} {x : Str} {st : Stmt} {f : Addr} {fd : FuncData} {ps : List Str} {sp : Sp} (F : FnP K x st f fd) (hm : mg x = some (.ref f)) (ok : FnOk P w K mg base CX0 k f fd ps sp)
    (h : ∀ (kV doc pm : Value) (an : Option Addr) (cdv ct : Value) (us ws : List Value), us.length = n → ws.length = ks.length → bindArgs (PySem.W.fnOf x x (defArgs st) (defBody st) (defScope st) .none kV doc pm an cdv ct) ⟨us, ks.zip ws⟩ = pure (ps.zip (us ++ ws))) : ClK P w K mg base k x sp n ks :=
  ⟨f, fd, ps, ok, hm, F.kp, kbinds0 F n ks h⟩
end DL
namespace DL
open PySem PySem.Spec PyProof.Rows L2
theorem spD0_len {K : PySem.W.Frag} {n : Nat} {F : List D → Res FV} {vs : List V} {H : Hp} {Q : VK} {E : XK} (h : spD0 K n F vs H Q E) : vs.length = n := by
  obtain ⟨O, ds, hO, hl, r, q⟩ := h
  rw [r.length, hl]
theorem spD0_no {K : PySem.W.Frag} {n : Nat} {F : List D → Res FV} {vs : List V} {H : Hp} {Q : VK} {E : XK} (h : spD0 K n F vs H Q E) (hn : ∀ ds, F ds = .no) : False := by
  obtain ⟨O, ds, hO, hl, r, q⟩ := h
  rw [hn] at q
  exact q
end DL
namespace DL
open PySem PySem.Spec PyProof.Rows L2
theorem sp_law {K : PySem.W.Frag} {F : List D → Res FV} {H : Hp} {a : Addr} {ns : List Int} (t : F [.scr ns] = .ok (.val (.bl true)) []) (ho : Only H) (hS : SqL K H a (ns.map V.int)) : spD0 K 1 F [.ref a] H (fun v _ => v = .bl true) fun _ _ _ => False := by
  refine ⟨fun _ => False, [.scr ns], fun _ h => h.elim, rfl, .cons (.scr ?_) .nil, ?_⟩
  · rcases hS with (h | ⟨o, h⟩) | h
    · rcases ho a with z | ⟨o, xs, z⟩ <;> (rw [z] at h; cases h)
    · exact .inl ⟨fun z => z, o, h⟩
    · exact .inr h
  · rw [t]
    intro v H' g r
    cases r
    rfl
end DL

namespace DL
open PySem PySem.Spec PyProof.Rows L2

/-! ### keywords in any order -/
def permL {α : Type} (p : List Nat) (l : List α) : List α := p.filterMap fun i => l[i]?
theorem permL_cons {α : Type} {i : Nat} {p : List Nat} {l : List α} : permL (i :: p) l = match l[i]? with
    | some a => a :: permL p l
    | none => permL p l := by
  unfold permL
  rw [List.filterMap_cons]
  cases l[i]? <;> rfl
theorem Reps.permD {K : PySem.W.Frag} {O : Addr → Prop} {H : Hp} {vs : List V} {ds : List D} (r : Reps K O H vs ds) : ∀ p : List Nat, Reps K O H (permL p vs) (permL p ds)
  | [] => .nil
  | i :: p => by
    rw [permL_cons, permL_cons]
    by_cases h : i < ds.length
    · have hv : i < vs.length := by rw [r.length]; exact h
      obtain ⟨v, e, rv⟩ := r.get (i := i) (List.getElem?_eq_getElem h)
      rw [e, List.getElem?_eq_getElem h]
      exact .cons rv (Reps.permD r p)
    · rw [List.getElem?_eq_none (l := ds) (by omega), List.getElem?_eq_none (l := vs) (by rw [r.length]; omega)]
      exact Reps.permD r p
theorem vals_perm {vs : List V} {us : List Value} (r : Vals vs us) : ∀ p : List Nat, Vals (permL p vs) (permL p us)
  | [] => .nil
  | i :: p => by
    rw [permL_cons, permL_cons]
    by_cases h : i < vs.length
    · obtain ⟨u, e, ru⟩ := r.get (i := i) (List.getElem?_eq_getElem h)
      rw [e, List.getElem?_eq_getElem h]
      exact .cons ru (vals_perm r p)
    · rw [List.getElem?_eq_none (l := vs) (by omega), List.getElem?_eq_none (l := us) (by rw [← r.length]; omega)]
      exact vals_perm r p
structure ClP (P : Program) (w : World) (K : PySem.W.Frag) (mg : Str → Option Value) (base : Heap) (k : Nat) (x : Str) (sp : Sp) (n : Nat) (ks : List Str) (p : List Nat) : Prop where
  ex : ∃ f fd ps, FnOk P w K mg base CX0 k f fd ps sp ∧ mg x = some (.ref f) ∧ PySem.W.keepIn K (.ref f) = true ∧ KBn K fd ps n ks (fun us ws => us ++ permL p ws) (fun vs zs => vs ++ permL p zs)
theorem clP_of {P : Program} {w : World} {K : PySem.W.Frag} {mg : Str → Option Value} {base : Heap} {k n : Nat} {ks : List Str} {x : Str} {st : Stmt} {f : Addr} {fd : FuncData} {ps : List Str} {sp : Sp} (p : List Nat) (F : FnP K x st f fd) (hm : mg x = some (.ref f)) (ok : FnOk P w K mg base CX0 k f fd ps sp)
    (h : ∀ (kV doc pm : Value) (an : Option Addr) (cdv ct : Value) (us ws : List Value), us.length = n → ws.length = ks.length → bindArgs (PySem.W.fnOf x x (defArgs st) (defBody st) (defScope st) .none kV doc pm an cdv ct) ⟨us, ks.zip ws⟩ = pure (ps.zip (us ++ permL p ws))) : ClP P w K mg base k x sp n ks p := by
  refine ⟨f, fd, ps, ok, hm, F.kp, ?_⟩
  obtain ⟨oc, od, dV, kV, doc, pm, an, cdv, ct, osl, rfl, lk, hcd, hD, hK⟩ := F.ex
  rcases hD with ⟨_, rfl⟩ | ⟨e, _⟩
  · exact ⟨fun s us ws _ l1 l2 => .of_eq (h kV doc pm an cdv ct us ws l1 l2), fun r1 r2 => r1.append (vals_perm r2 p)⟩
  · exact absurd rfl e
@[simp] def dLensP (n m : Nat) (p : List Nat) (fa fk : En → Res (List D)) : En → Res (List D) := fun ρ => (fa ρ).bind fun ds ρ1 => if ds.length = n then (fk ρ1).bind fun es ρ2 => if es.length = m then .ok (ds ++ permL p es) ρ2 else .no else .no
section
variable {X : Cx} {C : Ck} {W : L2.WX} {pos p : Pos} {k j n : Nat} {x : Str} {e : Expr} {es : List Expr} {F : List D → Res FV} {fa fk : En → Res (List D)}
theorem calP_imp {K : PySem.W.Frag} {m N : Nat} {π : List Nat} {E : XK} : ∀ σ H Q, tD K C W (dCal N F (dLensP n m π fa fk)) σ H Q → tCallN n m (spD0 K N F) (fun vs zs => vs ++ permL π zs) E (tA K C W fa) (tA K C W fk) σ H Q := fun σ H Q ⟨c, ρ, er, q⟩ => by
  have q := wpR_bind.mp (show wpR ((dLensP n m π fa fk ρ).bind _) _ _ from q)
  refine tA_bind er q fun ds ρ1 vs H1 s1 r1 q => ?_
  obtain ⟨l1, q⟩ := wpR_ite q
  refine tA_bind s1.er (wpR_after s1 q fun _ _ z => z) fun es ρ2 us H2 s2 r2 q => ?_
  obtain ⟨l2, q⟩ := wpR_ite q
  refine ⟨by rw [r1.length, l1], by rw [r2.length, l2], ?_⟩
  have s := s1.trans s2
  have r := (s2.reps r1).append (r2.permD π)
  obtain ⟨hl, q⟩ := wpR_ite (show wpR (if (ds ++ permL π es).length = N then _ else Res.no) _ _ from q)
  refine ⟨OO c σ ρ2, ds ++ permL π es, fun a h => s2.er.there h, hl, r, ?_⟩
  split at q
  · rename_i d _ hF
    rw [hF]
    exact fun v H2 g rv => q v H2 (s.trans (s2.er.grown (good_grow g))) rv
  · rename_i l _ hF
    rw [hF]
    exact fun a us H2 g h0 he rv => q _ H2 (s.trans (s2.er.grown (good_grow g))) (.lst ⟨fun z => s2.er.there z h0, he⟩ (rv.m fun b z _ => .inl z))
  · exact q.elim
theorem d_calP {m N : Nat} {ks : List Str} {π : List Nat} {kws : List Keyword} (c : ClP X.prog X.w X.K X.mg X.base k x (spD0 X.K N F) n ks π) (hr : Room j X.A) (ha : PA X (e :: es) (tA X.K C W fa)) (hkw : PK X kws (tA X.K C W fk)) (hk : k ≤ j := by decide) (hg : Gl X x := by rfl)
    (hall : (backToKw pos (keywordEach kws X.env)).all (·.1.isSome) = true := by rfl) (hks : (backToKw pos (keywordEach kws X.env)).filterMap (·.1) = ks := by rfl)
    (hdb : (x == ("__debug__" : Str)) = false := by decide) (he : starEach (e :: es) X.env = (false, eval e X.env) :: starEach es X.env := by rfl)
    (hpl : ((backTo pos (starEach (e :: es) X.env)).any (·.1) || (backToKw pos (keywordEach kws X.env)).any (·.1.isNone)) = false := by rfl) (hl : ks.length = m := by rfl) :
    PE X (.Call (.Name x p) (e :: es) kws pos) (tD X.K C W (dCal N F (dLensP n m π fa fk))) := by
  obtain ⟨f, fd, ps, c, hm, hkp, hb⟩ := c.ex
  subst hl
  exact (pe_callN c (hr.mono hk) hg hm hkp hb (pass0 (X := X)) ha hkw hall hks hdb he hpl).imp calP_imp
theorem d_calP0 {m N : Nat} {ks : List Str} {π : List Nat} {kws : List Keyword} (c : ClP X.prog X.w X.K X.mg X.base k x (spD0 X.K N F) 0 ks π) (hr : Room j X.A) (hkw : PK X kws (tA X.K C W fk)) (hk : k ≤ j := by decide) (hg : Gl X x := by rfl)
    (hall : (backToKw pos (keywordEach kws X.env)).all (·.1.isSome) = true := by rfl) (hks : (backToKw pos (keywordEach kws X.env)).filterMap (·.1) = ks := by rfl)
    (hdb : (x == ("__debug__" : Str)) = false := by decide) (hpl : ((backTo pos (starEach [] X.env)).any (·.1) || (backToKw pos (keywordEach kws X.env)).any (·.1.isNone)) = false := by rfl) (hl : ks.length = m := by rfl) :
    PE X (.Call (.Name x p) [] kws pos) (tD X.K C W (dCal N F (dLensP 0 m π dNil fk))) := by
  obtain ⟨f, fd, ps, c, hm, hkp, hb⟩ := c.ex
  subst hl
  refine PE.imp ?_ (calP_imp (E := E0))
  refine ⟨fun pins s σ H Q I h => ?_⟩
  obtain ⟨c0, ρ, er, h⟩ := h
  have h := h [] H er.step .nil
  refine wpAny_Call_Name_kw (ld_glob I hg hm ?_ hdb)
  refine PySem.W.callWith_KW0 (h₀ := X.base) I.ok.mod.kin hkp hall ?_ hpl
  refine thn (hkw.run pos pins s σ H _ I h) fun ws s2 ⟨zs, H2, I2, rz, l1, l2, q2⟩ => ⟨I2.kIn, ?_⟩
  rw [hks]
  exact run_fnN (us := []) (vs := []) c (hr.mono hk) hb (pass0 (X := X)) I2 .nil rz rfl l2 q2
end

/-! ### list(range(n)), list(range(a, b)) -/
@[simp] def dLR1 (f : En → Res D) : En → Res (List D) := fun ρ => (f ρ).bind fun d ρ' => match d with
  | .int n => if -LR ≤ n ∧ n ≤ 16777216 then .ok (rangeD 0 n.toNat) ρ' else .no
  | _ => .no
@[simp] def dLR2 (f g : En → Res D) : En → Res (List D) := fun ρ => (f ρ).bind fun d ρ1 => (g ρ1).bind fun e ρ2 => match d, e with
  | .int a, .int b => if -LR ≤ a ∧ a ≤ LR ∧ -LR ≤ b ∧ b ≤ LR ∧ (b - a).toNat ≤ 16777216 then .ok (rangeD a (b - a).toNat) ρ2 else .no
  | _, _ => .no
theorem reps_rg {K : PySem.W.Frag} {O : Addr → Prop} {H : Hp} (a b : Int) : Reps K O H (rgV a b) (rangeD a (b - a).toNat) := by
  have e1 : rgV a b = ((List.range (b - a).toNat).map fun i => a + ((i : Nat) : Int)).map V.int := by unfold rgV; rw [List.map_map]; rfl
  have e2 : rangeD a (b - a).toNat = ((List.range (b - a).toNat).map fun i => a + ((i : Nat) : Int)).map D.int := by unfold rangeD; rw [List.map_map]; rfl
  rw [e1, e2]
  exact Reps.ints _
section
variable {X : Cx} {C : Ck} {W : L2.WX} {pos p p2 pos2 : Pos} {a b : Expr} {f g : En → Res D}
theorem f_listR1 (hc : X.calm = true) (hl : X.mg "list" = none) (hm : X.mg "range" = none) (ha : PE X a (tD X.K C W f)) (hg : Gl X "list" := by rfl) (hg2 : Gl X "range" := by rfl) (na : starEach [a] X.env = (false, eval a X.env) :: starEach [] X.env := by rfl)
    (nl : starEach [.Call (.Name "range" p2) [a] [] pos2] X.env = (false, eval (.Call (.Name "range" p2) [a] [] pos2) X.env) :: starEach [] X.env := by rfl) :
    PE X (.Call (.Name "list" p) [.Call (.Name "range" p2) [a] [] pos2] [] pos) (tF X.K C W (dLR1 f)) := (pe_listRg hc hg hl (prg_1 hg2 hm ha na) nl).imp fun σ H Q ⟨c, ρ, er, q⟩ => by
  refine tD_bind er q fun d ρ1 v H1 s r q => ?_
  split at q
  · rename_i n
    obtain ⟨h, q⟩ := wpR_ite q
    unfold LR at h
    refine ⟨n, r.intV, ⟨by omega, by omega, by omega, by omega, by omega⟩, fun p hp => ?_⟩
    have rr := reps_rg (K := X.K) (O := OO c σ ρ1) (H := H1) 0 n
    rw [Int.sub_zero] at rr
    exact q p _ _ (s.trans (s.er.grown (grow_upd hp))) (s.good.free hp) upd_same (s.er.more hp) ((fresh_reps hp rr).m fun _ z _ => more_le z)
  · exact q.elim
theorem f_listR2 (hc : X.calm = true) (hl : X.mg "list" = none) (hm : X.mg "range" = none) (ha : PE X a (tD X.K C W f)) (hb : PE X b (tD X.K C W g)) (hg : Gl X "list" := by rfl) (hg2 : Gl X "range" := by rfl) (na : starEach [a, b] X.env = (false, eval a X.env) :: starEach [b] X.env := by rfl)
    (nb : starEach [b] X.env = (false, eval b X.env) :: starEach [] X.env := by rfl) (hp : (backTo pos2 (starEach [b] X.env)).any (·.1) = false := by rfl)
    (nl : starEach [.Call (.Name "range" p2) [a, b] [] pos2] X.env = (false, eval (.Call (.Name "range" p2) [a, b] [] pos2) X.env) :: starEach [] X.env := by rfl) :
    PE X (.Call (.Name "list" p) [.Call (.Name "range" p2) [a, b] [] pos2] [] pos) (tF X.K C W (dLR2 f g)) := (pe_listRg hc hg hl (prg_2 hg2 hm ha hb na nb hp) nl).imp fun σ H Q ⟨c, ρ, er, q⟩ => by
  refine tD_bind er q fun d ρ1 v H1 s1 r1 q => ?_
  refine tD_bind s1.er (wpR_after s1 q fun _ _ z => z) fun e ρ2 w H2 s2 r2 q => ?_
  cases d with
  | int i =>
    cases e with
    | int j =>
      obtain ⟨h, q⟩ := wpR_ite q
      unfold LR at h
      have s := s1.trans s2
      refine ⟨i, j, r1.intV, r2.intV, ⟨by omega, by omega, by omega, by omega, by omega⟩, fun p hp => ?_⟩
      exact q p _ _ (s.trans (s2.er.grown (grow_upd hp))) (s.good.free hp) upd_same (s2.er.more hp) ((fresh_reps hp (reps_rg i j)).m fun _ z _ => more_le z)
    | _ => exact q.elim
  | _ => exact q.elim
end

/-! ### max(xs, default=d) -/
section
variable {prog : Program} {w : World} {A : Around} {R : Result → Shared → Prop} {I S : Addr} {fp wr : List Addr} {n : Nat} {P : Nat → Value → Prop} {St : Nat → Heap → Prop} {dv : Value}
theorem mxn : (toString "max" ++ toString ".loop" : String) = "max.loop" := by decide
theorem mx_go (W : Walks prog w A.in1 I fp wr n P St) (bt : Nat → Nat → Bool) (cm : CmpOf prog w A.in1 .Gt P bt) (nS : S ∉ fp) :
    ∀ (r j : Nat) (s : Shared) (u : Value) (c : Nat), n - (j + 1) = r → j + 1 ≤ n → St (j + 1) s.heap → P (argBest bt j) u → s.heap.get? S = some { cls := .type "list", dict := none, data := .seq #[u, u] c, slots := #[] } →
    (∀ v h2 t2, P (argBest bt (n - 1)) v → (∀ b o, b ∉ wr → b ≠ S → s.heap.get? b = some o → h2.get? b = some o) → R (.ok (.ret v)) { s with heap := h2, toks := t2 }) →
    codeAny (model prog w) A (.builtin "max.loop" ⟨[.ref I, .none, .ref S], [("default", dv)]⟩) R s := by
  have nW : S ∉ wr := fun h => nS (W.sub _ h)
  intro r
  induction r with
  | zero =>
    intro j s u c hr hj st pu gS q
    have hn : j + 1 = n := by omega
    refine codeAny_builtin PySem.F.entry_max_loop ?_; rw [Around.under_plainId PySem.F.plain_max_loop _]
    show wpAny _ A.in1 (seqItems? (.ref S) >>= _) _ _ s; refine wpAny_bind (wpAny_seqItems gS rfl ?_)
    show wpAny _ A.in1 (tryCatch (pyNext (.ref I)) _ >>= _) _ _ s; refine wpAny_bind (wpAny_tryCatch (W.done s _ _ (hn ▸ st) fun h1 t1 k1 => ?_))
    have gS1 := k1 S _ nW gS
    show wpAny _ A.in1 (updateSeq S (fun _ => #[]) >>= _) _ _ _; refine wpAny_bind (wpAny_updateSeq gS1 rfl (wpAny_bind (wpAny_letGo (wpAny_pure ?_))))
    exact q u _ t1 (by rw [← hn]; exact pu) fun b o n1 n2 e => (Heap.get?_update_other _ _ (Ne.symm n2)).trans (k1 b o n1 e)
  | succ r ih =>
    intro j s u c hr hj st pu gS q
    have hn : j + 1 < n := by omega
    refine codeAny_builtin PySem.F.entry_max_loop ?_; rw [Around.under_plainId PySem.F.plain_max_loop _]
    show wpAny _ A.in1 (seqItems? (.ref S) >>= _) _ _ s; refine wpAny_bind (wpAny_seqItems gS rfl ?_)
    show wpAny _ A.in1 (tryCatch (pyNext (.ref I)) _ >>= _) _ _ s; refine wpAny_bind (wpAny_tryCatch (W.item (j + 1) s _ _ hn st fun v h1 t1 pv st1 k1 => ?_))
    have gS1 := k1 S _ nW gS
    show wpAny _ A.in1 (tryCatch (holding [v, v] (richCompare .Gt v u >>= _)) _ >>= _) _ _ _
    refine wpAny_bind (wpAny_tryCatch (wpAny_holding (wpAny_bind (cm (j + 1) (argBest bt j) v u _ _ _ pv pu ?_)))); refine wpAny_bind (wpAny_holding (wpAny_truthy_bool ?_)); refine wpAny_bind (wpAny_letGo (wpAny_pure ?_))
    cases hb : bt (j + 1) (argBest bt j) with
    | true =>
      rw [if_pos rfl]; refine wpAny_bind (wpAny_updateSeq gS1 rfl (wpAny_bind (wpAny_letGo ?_))); rw [mxn]
      refine wpAny_pure ⟨plainId_quiet PySem.F.plain_max_loop _, ih (j + 1) _ v _ (by omega) hn (W.frame _ _ _ st1 fun b hb1 o e => (Heap.get?_update_other _ _ fun z : S = b => nS (by rw [z]; exact hb1)).trans e) (by simp only [argBest, hb, if_true]; exact pv) (Heap.get?_update_self _ gS1 rfl) fun v2 h2 t2 p2 k2 => ?_⟩
      exact q v2 h2 t2 p2 fun b o n1 n2 e => k2 b o n1 n2 ((Heap.get?_update_other _ _ (Ne.symm n2)).trans (k1 b o n1 e))
    | false =>
      rw [if_neg Bool.false_ne_true]; refine wpAny_bind (wpAny_letGo ?_); rw [mxn]
      refine wpAny_pure ⟨plainId_quiet PySem.F.plain_max_loop _, ih (j + 1) _ u c (by omega) hn st1 (by simp only [argBest, hb, Bool.false_eq_true, if_false]; exact pu) gS1 fun v2 h2 t2 p2 k2 => q v2 h2 t2 p2 fun b o n1 n2 e => k2 b o n1 n2 (k1 b o n1 e)⟩
theorem mx_start (W : Walks prog w A.in1 I fp wr n P St) (bt : Nat → Nat → Bool) (cm : CmpOf prog w A.in1 .Gt P bt) (nS : S ∉ fp) {s : Shared} {c : Nat} (st : St 0 s.heap) (gS : s.heap.get? S = some { cls := .type "list", dict := none, data := .seq #[] c, slots := #[] })
    (q : ∀ v h2 t2, (n = 0 ∧ v = dv ∨ 0 < n ∧ P (argBest bt (n - 1)) v) → (∀ b o, b ∉ wr → b ≠ S → s.heap.get? b = some o → h2.get? b = some o) → R (.ok (.ret v)) { s with heap := h2, toks := t2 }) :
    codeAny (model prog w) A (.builtin "max.loop" ⟨[.ref I, .none, .ref S], [("default", dv)]⟩) R s := by
  have nW : S ∉ wr := fun h => nS (W.sub _ h)
  refine codeAny_builtin PySem.F.entry_max_loop ?_; rw [Around.under_plainId PySem.F.plain_max_loop _]
  show wpAny _ A.in1 (seqItems? (.ref S) >>= _) _ _ s; refine wpAny_bind (wpAny_seqItems gS rfl ?_)
  show wpAny _ A.in1 (tryCatch (pyNext (.ref I)) _ >>= _) _ _ s
  by_cases hn : n = 0
  · subst hn
    refine wpAny_bind (wpAny_tryCatch (W.done s _ _ st fun h1 t1 k1 => ?_))
    refine wpAny_bind (wpAny_rule (wpAny_pure ?_))
    exact q dv h1 t1 (.inl ⟨rfl, rfl⟩) fun b o n1 _ e => k1 b o n1 e
  · have h0 : 0 < n := Nat.pos_of_ne_zero hn
    refine wpAny_bind (wpAny_tryCatch (W.item 0 s _ _ h0 st fun v h1 t1 pv st1 k1 => ?_))
    have gS1 := k1 S _ nW gS
    show wpAny _ A.in1 (updateSeq S (fun _ => #[v, v]) >>= _) _ _ _; refine wpAny_bind (wpAny_updateSeq gS1 rfl ?_); rw [mxn]
    refine wpAny_pure ⟨plainId_quiet PySem.F.plain_max_loop _, mx_go W bt cm nS _ 0 _ v _ rfl h0 (W.frame _ _ _ st1 fun b hb1 o e => (Heap.get?_update_other _ _ fun z : S = b => nS (by rw [z]; exact hb1)).trans e) pv (Heap.get?_update_self _ gS1 rfl) fun v2 h2 t2 p2 k2 => ?_⟩
    exact q v2 h2 t2 (.inr ⟨h0, p2⟩) fun b o n1 n2 e => k2 b o n1 n2 ((Heap.get?_update_other _ _ (Ne.symm n2)).trans (k1 b o n1 e))
theorem mx_args (a v : Value) : argsOk "max" ⟨[a], [(Str.ofString "default", v)]⟩ := by unfold argsOk; kernel_rfl
theorem mx_call {E : Value → Shared → Prop} {s : Shared} {x : Value} {Q : Value → Shared → Prop}
    (h : wpAny (model prog w) A.in1 (pyIter x) (fun it s₂ => ∃ I fp wr n P St bt, it = .ref I ∧ Walks prog w A.in1 I fp wr n P St ∧ St 0 s₂.heap ∧ (∀ b ∈ fp, b < s₂.heap.objs.size) ∧ CmpOf prog w A.in1 .Gt P bt ∧
      ∀ v h2 t2, (n = 0 ∧ v = dv ∨ 0 < n ∧ P (argBest bt (n - 1)) v) → (∀ b o, b ∉ wr → s₂.heap.get? b = some o → h2.get? b = some o) → Q v { s₂ with heap := h2, toks := t2 }) E s) :
    wpAny (model prog w) A (call (.builtin "max") [x] [(Str.ofString "default", dv)]) Q E s := by
  refine PyProof.Rows.kmk_tree PySem.F.kind_max PySem.F.plain_max PySem.F.entry_max (mx_args _ _) ?_
  show wpAny _ A.in1 (Builtin.Builtins.bindParams "max" ["key", "default"] 0 ⟨[], [(Str.ofString "default", dv)]⟩ >>= _) _ _ s
  refine wpAny_bind (wpAny_of_eq (show Builtin.Builtins.bindParams "max" ["key", "default"] 0 ⟨[], [(Str.ofString "default", dv)]⟩ = pure [none, some dv] from rfl) ?_)
  refine wpAny_bind (wpAny_pure ?_)
  refine wpAny_bind (wpAny_mono h (fun it s2 z => ?_) fun _ _ e => e)
  obtain ⟨I, fp, wr, n, P, St, bt, rfl, W, st, lt, cm, q⟩ := z
  refine wpAny_bind (wpAny_newObj_type ?_)
  have nS : s2.heap.objs.size ∉ fp := fun m => Nat.lt_irrefl _ (lt _ m)
  rw [mxn]
  refine wpAny_pure ⟨plainId_quiet PySem.F.plain_max_loop _, mx_start W bt cm nS (W.frame _ _ _ st fun b _ o e => Heap.get?_push_of_some _ e) (Heap.get?_push_size _ rfl) fun v h2 t2 p2 k2 => ?_⟩
  exact q v h2 t2 p2 fun b o n1 e => k2 b o n1 (Nat.ne_of_lt (Heap.lt_size e)) (Heap.get?_push_of_some _ e)
theorem mx_ints {E : Value → Shared → Prop} {s : Shared} {l : Addr} {xs : Array (Int × Tok)} {Q : Value → Shared → Prop} (hh : A.handled = none) (hl : s.heap.IsList l (intItems xs))
    (q : ∀ v h2 t2, (xs.size = 0 ∧ v = dv ∨ 0 < xs.size ∧ (intItems xs)[argBest (fun i j => decide (numAt xs i > numAt xs j)) (xs.size - 1)]? = some v) → (∀ b o, s.heap.get? b = some o → h2.get? b = some o) → Q v { s with heap := h2, toks := t2 }) :
    wpAny (model prog w) A (call (.builtin "max") [.ref l] [(Str.ofString "default", dv)]) Q E s := by
  refine mx_call (iter_intList hl fun s2 e st lt ne => ?_)
  subst e
  refine ⟨_, _, _, _, _, _, _, rfl, Walks.list (A := A.in1) hh _ l ne (intItems xs), st, lt, CmpOf.ints_gt (numAt xs) (fun _ _ => intItems_at), fun v h2 t2 p k => ?_⟩
  exact q v h2 t2 (by simpa [intItems] using p) (old_kept k)
end
/-! #### a built-in with keywords, by values -/
def CallDK (K : PySem.W.Frag) (r : List V → List V → Hp → VK → Prop) (g : List D → List D → Option D) : Prop := ∀ (O : Addr → Prop) (H : Hp) (xs ws : List V) (ds es : List D) (z : D) (Q : VK), (∀ a, O a → H a ≠ none) → Reps K O H xs ds → Reps K O H ws es → g ds es = some z →
  (∀ v H', (∀ b o, H b = some o → H' b = some o) → Rep K O H' v z → Q v H') → r xs ws H Q
@[simp] def dCallK (g : List D → List D → Option D) (fa fk : En → Res (List D)) : En → Res D := fun ρ => (fa ρ).bind fun ds ρ1 => (fk ρ1).bind fun es ρ2 => optR (g ds es) fun z => .ok z ρ2
section
variable {X : Cx} {C : Ck} {W : L2.WX} {pos p : Pos} {x : Str} {e : Expr} {es : List Expr} {fa fk : En → Res (List D)} {id : String} {ks : List Str} {r : List V → List V → Hp → VK → Prop} {g : List D → List D → Option D} {kws : List Keyword}
theorem d_callBK (hc : CallRK X (.builtin id) ks r) (o : CallDK X.K r g) (hm : X.mg x = none) (hv : bootBuiltins x = some (.builtin id)) (ha : PA X (e :: es) (tA X.K C W fa)) (hkw : PK X kws (tA X.K C W fk)) (hg : Gl X x := by rfl)
    (hn : x ≠ "__name__" := by decide) (hdb : (x == ("__debug__" : Str)) = false := by decide) (he : backTo pos (starEach (e :: es) X.env) = (false, eval e X.env) :: backTo pos (starEach es X.env) := by rfl) (hpl : (backTo pos (starEach (e :: es) X.env)).any (·.1) = false := by rfl)
    (hall : (backToKw pos (keywordEach kws X.env)).all (·.1.isSome) = true := by rfl) (hnone : (backToKw pos (keywordEach kws X.env)).any (·.1.isNone) = false := by rfl) (hks : (backToKw pos (keywordEach kws X.env)).filterMap (·.1) = ks := by rfl) :
    PE X (.Call (.Name x p) (e :: es) kws pos) (tD X.K C W (dCallK g fa fk)) := (pe_callBK hc hg hm hv ha hkw hn hdb he hpl hall hnone hks).imp fun σ H Q ⟨c, ρ, er, q⟩ => by
  refine tA_bind er q fun ds ρ1 vs H1 s1 r1 q => ?_
  refine tA_bind s1.er (wpR_after s1 q fun _ _ z => z) fun es ρ2 us H2 s2 r2 q => ?_
  obtain ⟨z, hz, q⟩ := wpR_opt q
  exact o _ H2 vs us ds es z Q (fun a h => s2.er.there h) (s2.reps r1) r2 hz fun v H3 g3 r3 => q v H3 ((s1.trans s2).trans (s2.er.grown g3)) r3
def rMaxDf (K : PySem.W.Frag) : List V → List V → Hp → VK → Prop := fun vs zs H Q => ∃ (a : Addr) (ns : List Int) (d : Int), vs = [V.ref a] ∧ zs = [.int d] ∧ SqL K H a (ns.map V.int) ∧ Q (.int (if ns = [] then d else maxI ns)) H
theorem cr_maxDf (hc : X.calm = true) : CallRK X (.builtin "max") [Str.ofString "default"] (rMaxDf X.K) := by
  intro pins s σ H vs zs us ws Q I r rz h
  obtain ⟨a, ns, d, rfl, rfl, hs, q⟩ := h
  obtain rfl := Vals.ref1 r
  obtain ⟨w1, rfl, t0, rfl⟩ := vals1 rz
  obtain ⟨its, rv, hl, _⟩ := I.list hs
  have hi := rv.ints
  obtain ⟨xs, e⟩ := hi.allInts.items
  have hn : numsOf (intItems xs).toList = ns := by rw [← e]; exact hi.numsOf
  rw [nums_intItems] at hn
  have hl := hl.isList
  rw [e] at hl
  refine mx_ints (I.ok.hd hc) hl fun v h2 t2 p k => ?_
  rcases p with ⟨h0, rfl⟩ | ⟨h0, hv⟩
  · have en : ns = [] := by rw [← hn]; simpa using h0
    rw [if_pos en] at q
    exact ⟨.int d, H, I.kept k, ⟨_, rfl⟩, q⟩
  · obtain ⟨t, rfl⟩ := intItems_at hv
    obtain ⟨h1, h2⟩ := argBest_gt (numAt xs) (xs.size - 1)
    have ne : ns ≠ [] := fun z => by
      rw [z] at hn
      have := congrArg List.length hn
      simp at this
      rw [this] at h0
      exact absurd h0 (by decide)
    rw [if_neg ne] at q
    have key : numAt xs (argBest (fun i j => decide (numAt xs i > numAt xs j)) (xs.size - 1)) = maxI ns := by
      apply maxI_eq
      · rw [numAt_eq, ← hn]; exact PySem.getD_mem (by rw [List.length_map, Array.length_toList]; omega)
      · intro y hy
        rw [← hn] at hy
        obtain ⟨j, hj, rfl⟩ := mem_getD hy
        rw [List.length_map, Array.length_toList] at hj
        rw [← numAt_eq]; exact h2 j (by omega)
    rw [key]
    exact ⟨.int _, H, I.kept k, ⟨_, rfl⟩, q⟩
def gMaxD : List D → List D → Option D
  | [.lst l], [.int d] => (intsD l).map fun ns => .int (if ns = [] then d else maxI ns)
  | _, _ => none
theorem maxDf_ok {K : PySem.W.Frag} : CallDK K (rMaxDf K) gMaxD := fun O H xs ws ds es z Q _ r rz hz q => by
  unfold gMaxD at hz
  split at hz
  · rw [Option.map_eq_some_iff] at hz
    obtain ⟨ns, hn, rfl⟩ := hz
    replace r := reps1 r; obtain ⟨v, rfl, r⟩ := r
    replace rz := reps1 rz; obtain ⟨w, rfl, rz⟩ := rz
    obtain ⟨p, xs, rfl, t, r⟩ := r.lstV
    rw [intsD_eq hn] at r
    exact ⟨p, ns, _, rfl, by rw [rz.intV], by rw [← r.intsV]; exact t.sq, q _ H (fun _ _ h => h) (.int _)⟩
  · cases hz
end
end DL

namespace LL
open PySem PySem.Spec PyProof.Rows L2 DL
def top (i : Nat) : Stmt := PySem.Challenge.pw_tallstrips_k45_opening_cut_anywhere.main.body.getD i (.Pass ⟨0, 0, 0, 0⟩)
def cks : Ck := ⟨fun _ => 0, fun _ => ""⟩
def c_DIGITS : D := .str [48, 49, 50, 51, 52, 53, 54, 55, 56, 57]
def c_SIGNS : D := .str [32, 40, 41, 44, 45, 46, 47, 48, 49, 50, 51, 52, 53, 54, 55, 56, 57, 60, 61, 62, 124, 97, 98, 99, 100, 101, 102, 103, 104, 105, 106, 107, 108, 109, 110, 111, 112, 113, 114, 115, 116, 117, 118, 119, 120, 121, 122]
def c_ADD : D := .str [97, 100, 100]
def c_CUT : D := .str [99, 117, 116]
def c_LONGEST_WRITE : D := .int 9999
def c_MODULUS : D := .int 997
def c_LENGTH_DIGITS : D := .int 4
def c_CHECK_DIGITS : D := .int 3
def c_HEAD : D := .int 7
def c_OF_END : D := .str [100]
def c_BLANK : D := .str [32]
def c_LONGEST_FRAMED : D := .int 999
structure G (K : PySem.W.Frag) (mg : Str → Option Value) : Prop where
  n_ValueError : mg "ValueError" = none
  n_abs : mg "abs" = none
  n_all : mg "all" = none
  n_bool : mg "bool" = none
  n_divmod : mg "divmod" = none
  n_enumerate : mg "enumerate" = none
  n_int : mg "int" = none
  n_isinstance : mg "isinstance" = none
  n_len : mg "len" = none
  n_list : mg "list" = none
  n_max : mg "max" = none
  n_min : mg "min" = none
  n_range : mg "range" = none
  n_str : mg "str" = none
  n_sum : mg "sum" = none
  n_tuple : mg "tuple" = none
  c_DIGITS : GlD K mg "DIGITS" c_DIGITS
  c_SIGNS : GlD K mg "SIGNS" c_SIGNS
  c_ADD : GlD K mg "ADD" c_ADD
  c_CUT : GlD K mg "CUT" c_CUT
  c_LONGEST_WRITE : GlD K mg "LONGEST_WRITE" c_LONGEST_WRITE
  c_MODULUS : GlD K mg "MODULUS" c_MODULUS
  c_LENGTH_DIGITS : GlD K mg "LENGTH_DIGITS" c_LENGTH_DIGITS
  c_CHECK_DIGITS : GlD K mg "CHECK_DIGITS" c_CHECK_DIGITS
  c_HEAD : GlD K mg "HEAD" c_HEAD
  c_OF_END : GlD K mg "OF_END" c_OF_END
  c_BLANK : GlD K mg "BLANK" c_BLANK
  c_LONGEST_FRAMED : GlD K mg "LONGEST_FRAMED" c_LONGEST_FRAMED
section
variable {P : Program} {w : World} {K : PySem.W.Frag} {mg : Str → Option Value} {base : Heap} {f : Addr} {fd : FuncData}
def N_l_well : List PySem.Str := ["script", "turn", "own", "stir", "cell"]
def P_l_well : List PySem.Str := ["script", "turn"]
theorem sc_l_well : FnScope N_l_well P_l_well (defScope (top 52)) := C8.fnScope_by (by decide +kernel)
def f_l_well : En → Res Fl :=
  sSeq (sAs (dIf (dBo (dBin gLt (dVar 1) (dCall gLen (dCons (dVar 0) (dNil))))) (dCall gInt (dCons (dBin gIx (dVar 0) (dVar 1)) (dNil))) (dBin gAdd (dBin gAdd (dBin gMul (dC (.int 9311)) (dVar 1)) (dBin gMod (dCall gInt (dCons (dCall gSum (dCons (dSl (dVar 0) (dNP) (dPt (dC (.int 2)))) (dNil))) (dNil))) (dC (.int 1000003)))) (dC (.int 71)))) (gN 2))
  (sSeq (sAs (dBin gAdd (dC (.int 50021)) (dBin gMul (dC (.int 1013)) (dVar 1))) (gN 3))
  (sSeq (sFor (dIt (dBin gAdd (dSl (dVar 0) (dNP) (dPt (dC (.int 5)))) (dFz (dLst (dCons (dVar 2) (dNil)))))) (gN 4)
  (sAs (dBin gMod (dCall gInt (dCons (dBin gAdd (dBin gAdd (dBin gMul (dVar 3) (dC (.int 45013))) (dBin gMod (dCall gInt (dCons (dVar 4) (dNil))) (dC (.int 2147483399)))) (dC (.int 37))) (dNil))) (dC (.int 2147483563))) (gN 3)))
  (sRetF (dLst (dCons (dIf (dOr (dBo (dBin gLt (dVar 2) (dC (.int 0)))) (dBo (dBin gGe (dVar 2) (dBin gPow (dC (.int 10)) (dC (.int 17)))))) (dCall gAbs (dCons (dVar 2) (dNil))) (dC (.int 0))) (dCons (dVar 3) (dCons (dC (.int 0)) (dNil))))))))
def F_l_well := dFun0 5 f_l_well
theorem ok_l_well (g : G K mg) (Fn : FnP K "_law_well" (top 52) f fd) : FnOk P w K mg base CX0 1 f fd P_l_well (spD0 K 2 F_l_well) := fn_ok0 (C := cks) (k := 0) Fn sc_l_well rfl fun cdv A outer s H E hr =>
  s_cons (s_set 2 (d_if (t_cmp op_lt lt_ok (d_var 1) (d_callB call_len len_ok g.n_len (by decide +kernel) (a_cons (d_var 0) (a_nil))) rfl) (d_callT call_intA int_okD g.n_int (by decide +kernel) (a_cons (d_ix (d_var 0) (d_var 1)) (a_nil))) (d_bin op_addA addA_ok (d_bin op_addA addA_ok (d_bin op_mulA mulA_ok (d_int) (d_var 1)) (d_bin op_mod mod_ok (d_callT call_intA int_okD g.n_int (by decide +kernel) (a_cons (d_callB (cr_sum rfl) sum_ok g.n_sum (by decide +kernel) (a_cons (d_sl (d_var 0) (p_none) (p_some (d_int))) (a_nil))) (a_nil))) (d_int))) (d_int))) sc_l_well.nd)
  (s_cons (s_set 3 (d_bin op_addA addA_ok (d_int) (d_bin op_mulA mulA_ok (d_int) (d_var 1))) sc_l_well.nd)
  (s_cons (s_for PassesOwn.never rfl (i_val (d_bin op_addA addA_ok (d_sl (d_var 0) (p_none) (p_some (d_int))) (d_fz (f_lst (a_cons (d_var 2) (a_nil)))))) (pg_name sc_l_well.nd rfl (by first | exact Or.inl rfl | exact Or.inr rfl)) (tg_name)
  (s_one (s_set 3 (d_bin op_mod mod_ok (d_callT call_intA int_okD g.n_int (by decide +kernel) (a_cons (d_bin op_addA addA_ok (d_bin op_addA addA_ok (d_bin op_mulA mulA_ok (d_var 3) (d_int)) (d_bin op_mod mod_ok (d_callT call_intA int_okD g.n_int (by decide +kernel) (a_cons (d_var 4) (a_nil))) (d_int))) (d_int)) (a_nil))) (d_int)) sc_l_well.nd)))
  (s_one (s_retF (f_lst (a_cons (d_if (t_w (w_or (t_cmp op_lt lt_ok (d_var 2) (d_int) rfl) (w_or1 (t_cmp op_ge ge_ok (d_var 2) (d_bin op_pow pow_ok (d_int) (d_int)) rfl)))) (d_callB call_abs abs_ok g.n_abs (by decide +kernel) (a_cons (d_var 2) (a_nil))) (d_int)) (a_cons (d_var 3) (a_cons (d_int) (a_nil)))))))))
def N_l_take : List PySem.Str := ["well", "many", "figure", "by"]
def P_l_take : List PySem.Str := ["well", "many"]
theorem sc_l_take : FnScope N_l_take P_l_take (defScope (top 53)) := C8.fnScope_by (by decide +kernel)
def f_l_take : En → Res Fl :=
  sSeq (sIf (dBo (dBin gGt (dIxB 0 (dC (.int 0))) (dC (.int 0)))) (sSeq (sAs (dCall gDivmod (dCons (dIxB 0 (dC (.int 0))) (dCons (dVar 1) (dNil)))) (gT (gsC (gSu 0 (dC (.int 0))) (gsC (gN 2) (gs0)))))
  (sRet (dVar 2))) (sNx))
  (sSeq (sAs (dBin gAdd (dIxB 0 (dC (.int 2))) (dC (.int 1))) (gSu 0 (dC (.int 2))))
  (sSeq (sAs (dBin gAdd (dBin gMod (dCall gInt (dCons (dIxB 0 (dC (.int 1))) (dNil))) (dC (.int 28657))) (dC (.int 40009))) (gN 3))
  (sSeq (sAs (dBin gMod (dCall gInt (dCons (dBin gAdd (dBin gAdd (dBin gMul (dIxB 0 (dC (.int 1))) (dVar 3)) (dBin gMul (dC (.int 50023)) (dIxB 0 (dC (.int 2))))) (dC (.int 17))) (dNil))) (dC (.int 2147483563))) (gSu 0 (dC (.int 1))))
  (sRet (dBin gMod (dCall gInt (dCons (dBin gDiv (dIxB 0 (dC (.int 1))) (dC (.int 83))) (dNil))) (dVar 1))))))
def F_l_take := dFun1 4 f_l_take
theorem ok_l_take (g : G K mg) (Fn : FnP K "_law_take" (top 53) f fd) : FnOk P w K mg base CX0 1 f fd P_l_take (spD1 K 1 F_l_take) := fn_ok1 (C := cks) (k := 0) Fn sc_l_take rfl fun cdv A outer s H E hr =>
  s_cons (s_if (t_cmp op_gt gt_ok (d_ixB 0 (d_int)) (d_int) rfl) (s_cons (s_asgS (d_callB call_divmod divmod_ok g.n_divmod (by decide +kernel) (a_cons (d_ixB 0 (d_int)) (a_cons (d_var 1) (a_nil)))) (pg_tup rfl (pgs_cons (g_sub 0 (d_int)) (pgs_cons (pg_name sc_l_take.nd rfl (by first | exact Or.inl rfl | exact Or.inr rfl)) (pgs_nil)))) (ts_tup (tss_cons (ts_sub (C := cks) (W := WF)) (tss_cons (TgD.s (tg_name)) (tss_nil))) (gsC_len (gsC_len (gs0_len)))))
  (s_one (s_ret (d_var 2)))) (s_nil))
  (s_cons (s_asgS (d_bin op_addA addA_ok (d_ixB 0 (d_int)) (d_int)) (g_sub 0 (d_int)) (ts_sub (C := cks) (W := WF)))
  (s_cons (s_set 3 (d_bin op_addA addA_ok (d_bin op_mod mod_ok (d_callT call_intA int_okD g.n_int (by decide +kernel) (a_cons (d_ixB 0 (d_int)) (a_nil))) (d_int)) (d_int)) sc_l_take.nd)
  (s_cons (s_asgS (d_bin op_mod mod_ok (d_callT call_intA int_okD g.n_int (by decide +kernel) (a_cons (d_bin op_addA addA_ok (d_bin op_addA addA_ok (d_bin op_mulA mulA_ok (d_ixB 0 (d_int)) (d_var 3)) (d_bin op_mulA mulA_ok (d_int) (d_ixB 0 (d_int)))) (d_int)) (a_nil))) (d_int)) (g_sub 0 (d_int)) (ts_sub (C := cks) (W := WF)))
  (s_one (s_ret (d_bin op_mod mod_ok (d_callT call_intA int_okD g.n_int (by decide +kernel) (a_cons (d_bin op_fdiv div_ok (d_ixB 0 (d_int)) (d_int)) (a_nil))) (d_var 1)))))))
def N_l_pick : List PySem.Str := ["well", "some"]
def P_l_pick : List PySem.Str := ["well", "some"]
theorem sc_l_pick : FnScope N_l_pick P_l_pick (defScope (top 54)) := C8.fnScope_by (by decide +kernel)
def f_l_pick : En → Res Fl :=
  sRet (dBin gIx (dVar 1) (dCal1 1 0 F_l_take (dCons (dCall gLen (dCons (dVar 1) (dNil))) (dNil))))
def F_l_pick := dFun1 2 f_l_pick
theorem ok_l_pick (g : G K mg) (k_l_take : DL.Cl P w K mg base 1 "_law_take" (spD1 K 1 F_l_take)) (Fn : FnP K "_law_pick" (top 54) f fd) : FnOk P w K mg base CX0 2 f fd P_l_pick (spD1 K 1 F_l_pick) := fn_ok1 (C := cks) (k := 1) Fn sc_l_pick rfl fun cdv A outer s H E hr =>
  s_one (s_ret (d_ix (d_var 1) (d_cal1 0 k_l_take hr (a_cons (d_callB call_len len_ok g.n_len (by decide +kernel) (a_cons (d_var 1) (a_nil))) (a_nil)))))
def N_l_text : List PySem.Str := ["well", "most", "manner", "many", "signs", "at"]
def P_l_text : List PySem.Str := ["well", "most"]
theorem sc_l_text : FnScope N_l_text P_l_text (defScope (top 62)) := C8.fnScope_by (by decide +kernel)
def f_l_text : En → Res Fl :=
  sSeq (sPar [2, 3] (mVl (dCal1 1 0 F_l_take (dCons (dC (.int 4)) (dNil))) (mVl (dBin gAdd (dC (.int 1)) (dCal1 1 0 F_l_take (dCons (dVar 1) (dNil)))) (mNil))))
  (sSeq (sIf (dBo (dBin gEq (dVar 2) (dC (.int 3)))) (sRet (dBin gAdd (dBin gAdd (dC (.str [100, 32])) (dCall gStr (dCons (dBin gAdd (dC (.int 1)) (dCal1 1 0 F_l_take (dCons (dC (.int 9)) (dNil)))) (dNil)))) (dCal1 1 0 F_l_pick (dCons (dFz (dLst (dCons (dC (.str [])) (dCons (dC (.str [32, 118, 111, 105, 100, 32, 116])) (dCons (dC (.str [32, 114, 111, 119, 32, 116, 32, 40, 32, 49, 32, 41])) (dCons (dC (.str [32])) (dNil))))))) (dNil))))) (sNx))
  (sSeq (sAs (dBin gIx (dFz (dLst (dCons (dC (.str [32, 40, 41, 44, 45, 46, 47, 48, 49, 50, 51, 52, 53, 54, 55, 56, 57, 60, 61, 62, 124, 97, 98, 99, 100, 101, 102, 103, 104, 105, 106, 107, 108, 109, 110, 111, 112, 113, 114, 115, 116, 117, 118, 119, 120, 121, 122])) (dCons (dC (.str [48, 49, 50, 51, 52, 53, 54, 55, 56, 57])) (dCons (dC (.str [100, 32, 109, 116, 107, 111, 32, 124, 46])) (dNil)))))) (dVar 2)) (gN 4))
  (sRet (dMt "str" gJoin (dC (.str [])) (dCons (dFz (dLc [5] (dR1 (dCons (dVar 3) (dNil))) (gN 5) (dYes) (dCal1 1 0 F_l_pick (dCons (dVar 4) (dNil))))) (dNil))))))
def F_l_text := dFun1 6 f_l_text
theorem ok_l_text (g : G K mg) (k_l_pick : DL.Cl P w K mg base 2 "_law_pick" (spD1 K 1 F_l_pick)) (k_l_take : DL.Cl P w K mg base 1 "_law_take" (spD1 K 1 F_l_take)) (Fn : FnP K "_law_text" (top 62) f fd) : FnOk P w K mg base CX0 3 f fd P_l_text (spD1 K 1 F_l_text) := fn_ok1 (C := cks) (k := 2) Fn sc_l_text rfl fun cdv A outer s H E hr =>
  s_cons (s_par2 2 3 rfl sc_l_text.nd (m_vl (d_cal1 0 k_l_take hr (a_cons (d_int) (a_nil))) (m_vl (d_bin op_addA addA_ok (d_int) (d_cal1 0 k_l_take hr (a_cons (d_var 1) (a_nil)))) (m_nil))))
  (s_cons (s_if (t_cmp (op_eqD hr.units) eqD_ok (d_var 2) (d_int) rfl) (s_one (s_ret (d_bin op_addA addA_ok (d_bin op_addA addA_ok (d_str [100, 32] (by rfl) (by rfl)) (d_callT call_strA str_ok g.n_str (by decide +kernel) (a_cons (d_bin op_addA addA_ok (d_int) (d_cal1 0 k_l_take hr (a_cons (d_int) (a_nil)))) (a_nil)))) (d_cal1 0 k_l_pick hr (a_cons (d_fz (f_lst (a_cons (d_str [] (by rfl) (by rfl)) (a_cons (d_str [32, 118, 111, 105, 100, 32, 116] (by rfl) (by rfl)) (a_cons (d_str [32, 114, 111, 119, 32, 116, 32, 40, 32, 49, 32, 41] (by rfl) (by rfl)) (a_cons (d_str [32] (by rfl) (by rfl)) (a_nil))))))) (a_nil)))))) (s_nil))
  (s_cons (s_set 4 (d_ix (d_fz (f_lst (a_cons (d_str [32, 40, 41, 44, 45, 46, 47, 48, 49, 50, 51, 52, 53, 54, 55, 56, 57, 60, 61, 62, 124, 97, 98, 99, 100, 101, 102, 103, 104, 105, 106, 107, 108, 109, 110, 111, 112, 113, 114, 115, 116, 117, 118, 119, 120, 121, 122] (by rfl) (by rfl)) (a_cons (d_str [48, 49, 50, 51, 52, 53, 54, 55, 56, 57] (by rfl) (by rfl)) (a_cons (d_str [100, 32, 109, 116, 107, 111, 32, 124, 46] (by rfl) (by rfl)) (a_nil)))))) (d_var 2)) sc_l_text.nd)
  (s_one (s_ret (d_ms PySem.F.slot_str_join PySem.F.type_str_join mt_join join_ok (d_str [] (by rfl) (by rfl)) (a_cons (d_fz (f_lc rfl sc_l_text.nd (i_range1 g.n_range (a_cons (d_var 3) (a_nil))) (blkOk_by (own := [("at", 5)]) (by kernel_rfl)) (tg_name) (fun _ h => h) (fun _ _ _ _ _ => pg_name sc_l_text.nd rfl (by first | exact Or.inl rfl | exact Or.inr rfl)) (fun _ _ _ _ _ => ts_nil) (fun _ _ _ _ _ => d_cal1 0 k_l_pick hr (a_cons (d_var 4) (a_nil))))) (a_nil)))))))
def N_l_digits : List PySem.Str := ["number", "many"]
def P_l_digits : List PySem.Str := ["number", "many"]
theorem sc_l_digits : FnScope N_l_digits P_l_digits (defScope (top 57)) := C8.fnScope_by (by decide +kernel)
def f_l_digits : En → Res Fl :=
  sRet (dSl (dBin gAdd (dC (.str [48, 48, 48, 48])) (dCall gStr (dCons (dVar 0) (dNil)))) (dPt (dNeg (dVar 1))) (dNP))
def F_l_digits := dFun0 2 f_l_digits
theorem ok_l_digits (g : G K mg) (Fn : FnP K "_law_digits" (top 57) f fd) : FnOk P w K mg base CX0 1 f fd P_l_digits (spD0 K 2 F_l_digits) := fn_ok0 (C := cks) (k := 0) Fn sc_l_digits rfl fun cdv A outer s H E hr =>
  s_one (s_ret (d_sl (d_bin op_addA addA_ok (d_str [48, 48, 48, 48] (by rfl) (by rfl)) (d_callT call_strA str_ok g.n_str (by decide +kernel) (a_cons (d_var 0) (a_nil)))) (p_some (d_neg (d_var 1))) (p_none)))
def N_l_check : List PySem.Str := ["text", "row", "total", "at"]
def P_l_check : List PySem.Str := ["text"]
theorem sc_l_check : FnScope N_l_check P_l_check (defScope (top 56)) := C8.fnScope_by (by decide +kernel)
def f_l_check : En → Res Fl :=
  sSeq (sAs (dTup (dCons (dC (.str [32, 40, 41, 44, 45, 46, 47, 48, 49, 50, 51, 52, 53, 54, 55, 56, 57, 60, 61, 62, 124, 97, 98, 99, 100, 101, 102, 103, 104, 105, 106, 107, 108, 109, 110, 111, 112, 113, 114, 115, 116, 117, 118, 119, 120, 121, 122])) (dCons (dC (.int 0)) (dNil)))) (gT (gsC (gN 1) (gsC (gN 2) (gs0)))))
  (sSeq (sFor (dR1 (dCons (dCall gLen (dCons (dVar 0) (dNil))) (dNil))) (gN 3)
  (sAs (dBin gAdd (dVar 2) (dBin gMul (dBin gAdd (dVar 3) (dC (.int 1))) (dBin gAdd (dMt "str" gIndexS (dVar 1) (dCons (dBin gIx (dVar 0) (dVar 3)) (dNil))) (dC (.int 1))))) (gN 2)))
  (sRet (dBin gMod (dCall gInt (dCons (dVar 2) (dNil))) (dC (.int 997)))))
def F_l_check := dFun0 4 f_l_check
theorem ok_l_check (g : G K mg) (Fn : FnP K "_law_check" (top 56) f fd) : FnOk P w K mg base CX0 1 f fd P_l_check (spD0 K 1 F_l_check) := fn_ok0 (C := cks) (k := 0) Fn sc_l_check rfl fun cdv A outer s H E hr =>
  s_cons (s_asgS (d_tup (a_cons (d_str [32, 40, 41, 44, 45, 46, 47, 48, 49, 50, 51, 52, 53, 54, 55, 56, 57, 60, 61, 62, 124, 97, 98, 99, 100, 101, 102, 103, 104, 105, 106, 107, 108, 109, 110, 111, 112, 113, 114, 115, 116, 117, 118, 119, 120, 121, 122] (by rfl) (by rfl)) (a_cons (d_int) (a_nil)))) (pg_tup rfl (pgs_cons (pg_name sc_l_check.nd rfl (by first | exact Or.inl rfl | exact Or.inr rfl)) (pgs_cons (pg_name sc_l_check.nd rfl (by first | exact Or.inl rfl | exact Or.inr rfl)) (pgs_nil)))) (ts_tup (tss_cons (TgD.s (tg_name)) (tss_cons (TgD.s (tg_name)) (tss_nil))) (gsC_len (gsC_len (gs0_len)))))
  (s_cons (s_for PassesOwn.never rfl (i_range1 g.n_range (a_cons (d_callB call_len len_ok g.n_len (by decide +kernel) (a_cons (d_var 0) (a_nil))) (a_nil))) (pg_name sc_l_check.nd rfl (by first | exact Or.inl rfl | exact Or.inr rfl)) (tg_name)
  (s_one (s_set 2 (d_bin op_addA addA_ok (d_var 2) (d_bin op_mulA mulA_ok (d_bin op_addA addA_ok (d_var 3) (d_int)) (d_bin op_addA addA_ok (d_ms PySem.F.slot_str_index PySem.F.type_str_index (mt_indexS rfl) indexS_ok (d_var 1) (a_cons (d_ix (d_var 0) (d_var 3)) (a_nil))) (d_int)))) sc_l_check.nd)))
  (s_one (s_ret (d_bin op_mod mod_ok (d_callT call_intA int_okD g.n_int (by decide +kernel) (a_cons (d_var 2) (a_nil))) (d_int)))))
def N_l_frame : List PySem.Str := ["text"]
def P_l_frame : List PySem.Str := ["text"]
theorem sc_l_frame : FnScope N_l_frame P_l_frame (defScope (top 58)) := C8.fnScope_by (by decide +kernel)
def f_l_frame : En → Res Fl :=
  sRet (dBin gAdd (dBin gAdd (dCal 2 F_l_digits (dCons (dCall gLen (dCons (dVar 0) (dNil))) (dCons (dC (.int 4)) (dNil)))) (dCal 2 F_l_digits (dCons (dCal 1 F_l_check (dCons (dVar 0) (dNil))) (dCons (dC (.int 3)) (dNil))))) (dVar 0))
def F_l_frame := dFun0 1 f_l_frame
theorem ok_l_frame (g : G K mg) (k_l_digits : DL.Cl P w K mg base 1 "_law_digits" (spD0 K 2 F_l_digits)) (k_l_check : DL.Cl P w K mg base 1 "_law_check" (spD0 K 1 F_l_check)) (Fn : FnP K "_law_frame" (top 58) f fd) : FnOk P w K mg base CX0 2 f fd P_l_frame (spD0 K 1 F_l_frame) := fn_ok0 (C := cks) (k := 1) Fn sc_l_frame rfl fun cdv A outer s H E hr =>
  s_one (s_ret (d_bin op_addA addA_ok (d_bin op_addA addA_ok (d_cal k_l_digits hr (a_cons (d_callB call_len len_ok g.n_len (by decide +kernel) (a_cons (d_var 0) (a_nil))) (a_cons (d_int) (a_nil)))) (d_cal k_l_digits hr (a_cons (d_cal k_l_check hr (a_cons (d_var 0) (a_nil))) (a_cons (d_int) (a_nil))))) (d_var 0)))
def N_l_stream : List PySem.Str := ["texts", "text"]
def P_l_stream : List PySem.Str := ["texts"]
theorem sc_l_stream : FnScope N_l_stream P_l_stream (defScope (top 59)) := C8.fnScope_by (by decide +kernel)
def f_l_stream : En → Res Fl :=
  sRet (dMt "str" gJoin (dC (.str [])) (dCons (dFz (dLc [1] (dIt (dVar 0)) (gN 1) (dYes) (dCal 1 F_l_frame (dCons (dVar 1) (dNil))))) (dNil)))
def F_l_stream := dFun0 2 f_l_stream
theorem ok_l_stream (g : G K mg) (k_l_frame : DL.Cl P w K mg base 2 "_law_frame" (spD0 K 1 F_l_frame)) (Fn : FnP K "_law_stream" (top 59) f fd) : FnOk P w K mg base CX0 3 f fd P_l_stream (spD0 K 1 F_l_stream) := fn_ok0 (C := cks) (k := 2) Fn sc_l_stream rfl fun cdv A outer s H E hr =>
  s_one (s_ret (d_ms PySem.F.slot_str_join PySem.F.type_str_join mt_join join_ok (d_str [] (by rfl) (by rfl)) (a_cons (d_fz (f_lc rfl sc_l_stream.nd (i_val (d_var 0)) (blkOk_by (own := [("text", 1)]) (by kernel_rfl)) (tg_name) (fun _ h => h) (fun _ _ _ _ _ => pg_name sc_l_stream.nd rfl (by first | exact Or.inl rfl | exact Or.inr rfl)) (fun _ _ _ _ _ => ts_nil) (fun _ _ _ _ _ => d_cal k_l_frame hr (a_cons (d_var 1) (a_nil))))) (a_nil))))
def N_l_same : List PySem.Str := ["told", "due", "at"]
def P_l_same : List PySem.Str := ["told", "due"]
theorem sc_l_same : FnScope N_l_same P_l_same (defScope (top 55)) := C8.fnScope_by (by decide +kernel)
def f_l_same (F : List D → Res FV) : En → Res Fl :=
  sSeq (sIf (dOr (dTr (dIsi "tuple" (dVar 1))) (dTr (dIsi "list" (dVar 1)))) (sSeq (sIf (dOr (dBo (dBin gNe (dIsi "tuple" (dVar 0)) (dIsi "tuple" (dVar 1)))) (dBo (dBin gNe (dIsi "list" (dVar 0)) (dIsi "list" (dVar 1))))) (sRet (dC (.bl false))) (sNx))
  (sRet (dAndV (dBin gEq (dCall gLen (dCons (dVar 0) (dNil))) (dCall gLen (dCons (dVar 1) (dNil)))) (dCall gAll (dCons (dFz (dLc [2] (dR1 (dCons (dCall gLen (dCons (dVar 1) (dNil))) (dNil))) (gN 2) (dYes) (dCal 2 F (dCons (dBin gIx (dVar 0) (dVar 2)) (dCons (dBin gIx (dVar 1) (dVar 2)) (dNil)))))) (dNil)))))) (sNx))
  (sSeq (sIf (dBo (dBin gIs (dVar 1) (dC .non))) (sRet (dBin gIs (dVar 0) (dC .non))) (sNx))
  (sSeq (sIf (dTr (dIsi "bool" (dVar 1))) (sRet (dAndV (dIsi "bool" (dVar 0)) (dBin gEq (dVar 0) (dVar 1)))) (sNx))
  (sSeq (sIf (dTr (dIsi "int" (dVar 1))) (sRet (dAndV (dIsi "int" (dVar 0)) (dAndV (dNotV (dIsi "bool" (dVar 0))) (dBin gEq (dVar 0) (dVar 1))))) (sNx))
  (sRet (dAndV (dIsi "str" (dVar 0)) (dBin gEq (dVar 0) (dVar 1)))))))
def FF_l_same : Nat → List D → Res FV
  | 0 => fun _ => .no
  | n + 1 => dFun0 3 (f_l_same (FF_l_same n))
def F_l_same : List D → Res FV := FF_l_same 5
theorem ok_l_same (g : G K mg) (Fn : FnP K "_law_same" (top 55) f fd) (hm : mg "_law_same" = some (.ref f)) : ∀ n, FnOk P w K mg base CX0 (0 + n) f fd P_l_same (spD0 K 2 (FF_l_same n))
  | 0 => ⟨fun vs H Q E h => spD0_len h, fun A outer s H args us vs Q E hr he hb hv h => (spD0_no h (fun _ => rfl)).elim⟩
  | n + 1 => by
    have kr : DL.Cl P w K mg base (0 + n) "_law_same" (spD0 K 2 (FF_l_same n)) := cl_of Fn hm (ok_l_same g Fn hm n) (fun _ _ _ _ _ _ us hl => match us, hl with | [_, _], _ => rfl)
    exact fn_ok0 (C := cks) Fn sc_l_same rfl fun cdv A outer s H E hr => (s_cons (s_if (t_w (w_or (t_val (d_isi "tuple" (by decide +kernel) g.n_isinstance g.n_tuple (by decide +kernel) (d_var 1))) (w_or1 (t_val (d_isi "list" (by decide +kernel) g.n_isinstance g.n_list (by decide +kernel) (d_var 1)))))) (s_cons (s_if (t_w (w_or (t_cmp (op_neD hr.units) neD_ok (d_isi "tuple" (by decide +kernel) g.n_isinstance g.n_tuple (by decide +kernel) (d_var 0)) (d_isi "tuple" (by decide +kernel) g.n_isinstance g.n_tuple (by decide +kernel) (d_var 1)) rfl) (w_or1 (t_cmp (op_neD hr.units) neD_ok (d_isi "list" (by decide +kernel) g.n_isinstance g.n_list (by decide +kernel) (d_var 0)) (d_isi "list" (by decide +kernel) g.n_isinstance g.n_list (by decide +kernel) (d_var 1)) rfl)))) (s_one (s_ret (d_bl))) (s_nil))
  (s_one (s_ret (d_and (d_cmp (op_eqD hr.units) eqD_ok (d_callB call_len len_ok g.n_len (by decide +kernel) (a_cons (d_var 0) (a_nil))) (d_callB call_len len_ok g.n_len (by decide +kernel) (a_cons (d_var 1) (a_nil))) rfl) (d_one (d_callB (cr_all rfl) all_ok g.n_all (by decide +kernel) (a_cons (d_fz (f_lc rfl sc_l_same.nd (i_range1 g.n_range (a_cons (d_callB call_len len_ok g.n_len (by decide +kernel) (a_cons (d_var 1) (a_nil))) (a_nil))) (blkOk_by (own := [("at", 2)]) (by kernel_rfl)) (tg_name) (fun _ h => h) (fun _ _ _ _ _ => pg_name sc_l_same.nd rfl (by first | exact Or.inl rfl | exact Or.inr rfl)) (fun _ _ _ _ _ => ts_nil) (fun _ _ _ _ _ => d_cal kr hr (a_cons (d_ix (d_var 0) (d_var 2)) (a_cons (d_ix (d_var 1) (d_var 2)) (a_nil))) (Nat.le_refl _)))) (a_nil)))))))) (s_nil))
  (s_cons (s_if (t_cmp op_isN isN_ok (d_var 1) (d_non) rfl) (s_one (s_ret (d_cmp op_isN isN_ok (d_var 0) (d_non) rfl))) (s_nil))
  (s_cons (s_if (t_val (d_isi "bool" (by decide +kernel) g.n_isinstance g.n_bool (by decide +kernel) (d_var 1))) (s_one (s_ret (d_and (d_isi "bool" (by decide +kernel) g.n_isinstance g.n_bool (by decide +kernel) (d_var 0)) (d_one (d_cmp (op_eqD hr.units) eqD_ok (d_var 0) (d_var 1) rfl))))) (s_nil))
  (s_cons (s_if (t_val (d_isi "int" (by decide +kernel) g.n_isinstance g.n_int (by decide +kernel) (d_var 1))) (s_one (s_ret (d_and (d_isi "int" (by decide +kernel) g.n_isinstance g.n_int (by decide +kernel) (d_var 0)) (d_and (d_not (d_isi "bool" (by decide +kernel) g.n_isinstance g.n_bool (by decide +kernel) (d_var 0))) (d_one (d_cmp (op_eqD hr.units) eqD_ok (d_var 0) (d_var 1) rfl)))))) (s_nil))
  (s_one (s_ret (d_and (d_isi "str" (by decide +kernel) g.n_isinstance g.n_str (by decide +kernel) (d_var 0)) (d_one (d_cmp (op_eqD hr.units) eqD_ok (d_var 0) (d_var 1) rfl)))))))))
def N_is_text_of : List PySem.Str := ["value", "signs", "sign"]
def P_is_text_of : List PySem.Str := ["value", "signs"]
theorem sc_is_text_of : FnScope N_is_text_of P_is_text_of (defScope (top 9)) := C8.fnScope_by (by decide +kernel)
def f_is_text_of : En → Res Fl :=
  sRet (dAndV (dIsi "str" (dVar 0)) (dCall gAll (dCons (dFz (dLc [2] (dIt (dVar 0)) (gN 2) (dYes) (dBin gIn (dVar 2) (dVar 1)))) (dNil))))
def F_is_text_of := dFun0 3 f_is_text_of
theorem ok_is_text_of (g : G K mg) (Fn : FnP K "is_text_of" (top 9) f fd) : FnOk P w K mg base CX0 1 f fd P_is_text_of (spD0 K 2 F_is_text_of) := fn_ok0 (C := cks) (k := 0) Fn sc_is_text_of rfl fun cdv A outer s H E hr =>
  s_one (s_ret (d_and (d_isi "str" (by decide +kernel) g.n_isinstance g.n_str (by decide +kernel) (d_var 0)) (d_one (d_callB (cr_all rfl) all_ok g.n_all (by decide +kernel) (a_cons (d_fz (f_lc rfl sc_is_text_of.nd (i_val (d_var 0)) (blkOk_by (own := [("sign", 2)]) (by kernel_rfl)) (tg_name) (fun _ h => h) (fun _ _ _ _ _ => pg_name sc_is_text_of.nd rfl (by first | exact Or.inl rfl | exact Or.inr rfl)) (fun _ _ _ _ _ => ts_nil) (fun _ _ _ _ _ => d_cmp op_inA inA_ok (d_var 2) (d_var 1) rfl))) (a_nil))))))
def N_is_signed : List PySem.Str := ["value"]
def P_is_signed : List PySem.Str := ["value"]
theorem sc_is_signed : FnScope N_is_signed P_is_signed (defScope (top 13)) := C8.fnScope_by (by decide +kernel)
def f_is_signed : En → Res Fl :=
  sRet (dCal 2 F_is_text_of (dCons (dVar 0) (dCons (dC c_SIGNS) (dNil))))
def F_is_signed := dFun0 1 f_is_signed
theorem ok_is_signed (g : G K mg) (k_is_text_of : DL.Cl P w K mg base 1 "is_text_of" (spD0 K 2 F_is_text_of)) (Fn : FnP K "is_signed" (top 13) f fd) : FnOk P w K mg base CX0 2 f fd P_is_signed (spD0 K 1 F_is_signed) := fn_ok0 (C := cks) (k := 1) Fn sc_is_signed rfl fun cdv A outer s H E hr =>
  s_one (s_ret (d_cal k_is_text_of hr (a_cons (d_var 0) (a_cons (d_glE g.c_SIGNS) (a_nil)))))
def N_check_signs : List PySem.Str := ["text"]
def P_check_signs : List PySem.Str := ["text"]
theorem sc_check_signs : FnScope N_check_signs P_check_signs (defScope (top 16)) := C8.fnScope_by (by decide +kernel)
def f_check_signs : En → Res Fl :=
  sIf (dNot (dTr (dCal 1 F_is_signed (dCons (dVar 0) (dNil))))) (sNo) (sNx)
def F_check_signs := dFun0 1 f_check_signs
theorem ok_check_signs (g : G K mg) (k_is_signed : DL.Cl P w K mg base 2 "is_signed" (spD0 K 1 F_is_signed)) (Fn : FnP K "check_signs" (top 16) f fd) : FnOk P w K mg base CX0 3 f fd P_check_signs (spD0 K 1 F_check_signs) := fn_ok0 (C := cks) (k := 2) Fn sc_check_signs rfl fun cdv A outer s H E hr =>
  s_one (s_if (t_not (t_val (d_cal k_is_signed hr (a_cons (d_var 0) (a_nil))))) (s_one (s_never)) (s_nil))
def N_is_tuple_of : List PySem.Str := ["value", "many"]
def P_is_tuple_of : List PySem.Str := ["value", "many"]
theorem sc_is_tuple_of : FnScope N_is_tuple_of P_is_tuple_of (defScope (top 8)) := C8.fnScope_by (by decide +kernel)
def f_is_tuple_of : En → Res Fl :=
  sRet (dAndV (dIsi "tuple" (dVar 0)) (dBin gEq (dCall gLen (dCons (dVar 0) (dNil))) (dVar 1)))
def F_is_tuple_of := dFun0 2 f_is_tuple_of
theorem ok_is_tuple_of (g : G K mg) (Fn : FnP K "is_tuple_of" (top 8) f fd) : FnOk P w K mg base CX0 1 f fd P_is_tuple_of (spD0 K 2 F_is_tuple_of) := fn_ok0 (C := cks) (k := 0) Fn sc_is_tuple_of rfl fun cdv A outer s H E hr =>
  s_one (s_ret (d_and (d_isi "tuple" (by decide +kernel) g.n_isinstance g.n_tuple (by decide +kernel) (d_var 0)) (d_one (d_cmp (op_eqD hr.units) eqD_ok (d_callB call_len len_ok g.n_len (by decide +kernel) (a_cons (d_var 0) (a_nil))) (d_var 1) rfl))))
def N_is_whole : List PySem.Str := ["value"]
def P_is_whole : List PySem.Str := ["value"]
theorem sc_is_whole : FnScope N_is_whole P_is_whole (defScope (top 6)) := C8.fnScope_by (by decide +kernel)
def f_is_whole : En → Res Fl :=
  sRet (dAndV (dIsi "int" (dVar 0)) (dNotV (dIsi "bool" (dVar 0))))
def F_is_whole := dFun0 1 f_is_whole
theorem ok_is_whole (g : G K mg) (Fn : FnP K "is_whole" (top 6) f fd) : FnOk P w K mg base CX0 1 f fd P_is_whole (spD0 K 1 F_is_whole) := fn_ok0 (C := cks) (k := 0) Fn sc_is_whole rfl fun cdv A outer s H E hr =>
  s_one (s_ret (d_and (d_isi "int" (by decide +kernel) g.n_isinstance g.n_int (by decide +kernel) (d_var 0)) (d_one (d_not (d_isi "bool" (by decide +kernel) g.n_isinstance g.n_bool (by decide +kernel) (d_var 0))))))
def N_is_between : List PySem.Str := ["value", "low", "high"]
def P_is_between : List PySem.Str := ["value", "low", "high"]
theorem sc_is_between : FnScope N_is_between P_is_between (defScope (top 7)) := C8.fnScope_by (by decide +kernel)
def f_is_between : En → Res Fl :=
  sRet (dAndV (dCal 1 F_is_whole (dCons (dVar 0) (dNil))) (dCh gLe gLe (dVar 1) (dVar 0) (dVar 2)))
def F_is_between := dFun0 3 f_is_between
theorem ok_is_between (g : G K mg) (k_is_whole : DL.Cl P w K mg base 1 "is_whole" (spD0 K 1 F_is_whole)) (Fn : FnP K "is_between" (top 7) f fd) : FnOk P w K mg base CX0 2 f fd P_is_between (spD0 K 3 F_is_between) := fn_ok0 (C := cks) (k := 1) Fn sc_is_between rfl fun cdv A outer s H E hr =>
  s_one (s_ret (d_and (d_cal k_is_whole hr (a_cons (d_var 0) (a_nil))) (d_one (d_ch op_le le_ok op_le le_ok (d_var 1) (d_var 0) (d_var 2)))))
def N_is_write_of : List PySem.Str := ["log", "value"]
def P_is_write_of : List PySem.Str := ["log", "value"]
theorem sc_is_write_of : FnScope N_is_write_of P_is_write_of (defScope (top 21)) := C8.fnScope_by (by decide +kernel)
def f_is_write_of : En → Res Fl :=
  sSeq (sIf (dNot (dTr (dCal 2 F_is_tuple_of (dCons (dVar 1) (dCons (dC (.int 2)) (dNil)))))) (sRet (dC (.bl false))) (sNx))
  (sSeq (sIf (dBo (dBin gEq (dBin gIx (dVar 1) (dC (.int 0))) (dC c_CUT))) (sRet (dCal 3 F_is_between (dCons (dBin gIx (dVar 1) (dC (.int 1))) (dCons (dC (.int 0)) (dCons (dCall gLen (dCons (dVar 0) (dNil))) (dNil)))))) (sNx))
  (sRet (dAndV (dBin gEq (dBin gIx (dVar 1) (dC (.int 0))) (dC c_ADD)) (dAndV (dCal 1 F_is_signed (dCons (dBin gIx (dVar 1) (dC (.int 1))) (dNil))) (dCh gLe gLe (dC (.int 1)) (dCall gLen (dCons (dBin gIx (dVar 1) (dC (.int 1))) (dNil))) (dC c_LONGEST_WRITE))))))
def F_is_write_of := dFun0 2 f_is_write_of
theorem ok_is_write_of (g : G K mg) (k_is_signed : DL.Cl P w K mg base 2 "is_signed" (spD0 K 1 F_is_signed)) (k_is_between : DL.Cl P w K mg base 2 "is_between" (spD0 K 3 F_is_between)) (k_is_tuple_of : DL.Cl P w K mg base 1 "is_tuple_of" (spD0 K 2 F_is_tuple_of)) (Fn : FnP K "is_write_of" (top 21) f fd) : FnOk P w K mg base CX0 3 f fd P_is_write_of (spD0 K 2 F_is_write_of) := fn_ok0 (C := cks) (k := 2) Fn sc_is_write_of rfl fun cdv A outer s H E hr =>
  s_cons (s_if (t_not (t_val (d_cal k_is_tuple_of hr (a_cons (d_var 1) (a_cons (d_int) (a_nil)))))) (s_one (s_ret (d_bl))) (s_nil))
  (s_cons (s_if (t_cmp (op_eqD hr.units) eqD_ok (d_ix (d_var 1) (d_int)) (d_glE g.c_CUT) rfl) (s_one (s_ret (d_cal k_is_between hr (a_cons (d_ix (d_var 1) (d_int)) (a_cons (d_int) (a_cons (d_callB call_len len_ok g.n_len (by decide +kernel) (a_cons (d_var 0) (a_nil))) (a_nil))))))) (s_nil))
  (s_one (s_ret (d_and (d_cmp (op_eqD hr.units) eqD_ok (d_ix (d_var 1) (d_int)) (d_glE g.c_ADD) rfl) (d_and (d_cal k_is_signed hr (a_cons (d_ix (d_var 1) (d_int)) (a_nil))) (d_one (d_ch op_le le_ok op_le le_ok (d_int) (d_callB call_len len_ok g.n_len (by decide +kernel) (a_cons (d_ix (d_var 1) (d_int)) (a_nil))) (d_glE g.c_LONGEST_WRITE))))))))
def N_check_write : List PySem.Str := ["log", "write"]
def P_check_write : List PySem.Str := ["log", "write"]
theorem sc_check_write : FnScope N_check_write P_check_write (defScope (top 42)) := C8.fnScope_by (by decide +kernel)
def f_check_write : En → Res Fl :=
  sIf (dNot (dTr (dCal 2 F_is_write_of (dCons (dVar 0) (dCons (dVar 1) (dNil)))))) (sNo) (sNx)
def F_check_write := dFun0 2 f_check_write
theorem ok_check_write (g : G K mg) (k_is_write_of : DL.Cl P w K mg base 3 "is_write_of" (spD0 K 2 F_is_write_of)) (Fn : FnP K "check_write" (top 42) f fd) : FnOk P w K mg base CX0 4 f fd P_check_write (spD0 K 2 F_check_write) := fn_ok0 (C := cks) (k := 3) Fn sc_check_write rfl fun cdv A outer s H E hr =>
  s_one (s_if (t_not (t_val (d_cal k_is_write_of hr (a_cons (d_var 0) (a_cons (d_var 1) (a_nil)))))) (s_one (s_never)) (s_nil))
def N_torn_by : List PySem.Str := ["log", "write", "number"]
def P_torn_by : List PySem.Str := ["log", "write", "number"]
theorem sc_torn_by : FnScope N_torn_by P_torn_by (defScope (top 35)) := C8.fnScope_by (by decide +kernel)
def f_torn_by : En → Res Fl :=
  sSeq (sIf (dBo (dBin gEq (dBin gIx (dVar 1) (dC (.int 0))) (dC c_ADD))) (sRet (dBin gAdd (dVar 0) (dSl (dBin gIx (dVar 1) (dC (.int 1))) (dNP) (dPt (dVar 2))))) (sNx))
  (sRet (dIf (dBo (dBin gGt (dVar 2) (dC (.int 0)))) (dSl (dVar 0) (dNP) (dPt (dBin gIx (dVar 1) (dC (.int 1))))) (dVar 0)))
def F_torn_by := dFun0 3 f_torn_by
theorem ok_torn_by (g : G K mg) (Fn : FnP K "torn_by" (top 35) f fd) : FnOk P w K mg base CX0 1 f fd P_torn_by (spD0 K 3 F_torn_by) := fn_ok0 (C := cks) (k := 0) Fn sc_torn_by rfl fun cdv A outer s H E hr =>
  s_cons (s_if (t_cmp (op_eqD hr.units) eqD_ok (d_ix (d_var 1) (d_int)) (d_glE g.c_ADD) rfl) (s_one (s_ret (d_bin op_addA addA_ok (d_var 0) (d_sl (d_ix (d_var 1) (d_int)) (p_none) (p_some (d_var 2)))))) (s_nil))
  (s_one (s_ret (d_if (t_cmp op_gt gt_ok (d_var 2) (d_int) rfl) (d_sl (d_var 0) (p_none) (p_some (d_ix (d_var 1) (d_int)))) (d_var 0))))
def N_signs_of : List PySem.Str := ["write"]
def P_signs_of : List PySem.Str := ["write"]
theorem sc_signs_of : FnScope N_signs_of P_signs_of (defScope (top 22)) := C8.fnScope_by (by decide +kernel)
def f_signs_of : En → Res Fl :=
  sRet (dIf (dBo (dBin gEq (dBin gIx (dVar 0) (dC (.int 0))) (dC c_ADD))) (dCall gLen (dCons (dBin gIx (dVar 0) (dC (.int 1))) (dNil))) (dC (.int 1)))
def F_signs_of := dFun0 1 f_signs_of
theorem ok_signs_of (g : G K mg) (Fn : FnP K "signs_of" (top 22) f fd) : FnOk P w K mg base CX0 1 f fd P_signs_of (spD0 K 1 F_signs_of) := fn_ok0 (C := cks) (k := 0) Fn sc_signs_of rfl fun cdv A outer s H E hr =>
  s_one (s_ret (d_if (t_cmp (op_eqD hr.units) eqD_ok (d_ix (d_var 0) (d_int)) (d_glE g.c_ADD) rfl) (d_callB call_len len_ok g.n_len (by decide +kernel) (a_cons (d_ix (d_var 0) (d_int)) (a_nil))) (d_int)))
def N_written_by : List PySem.Str := ["log", "write"]
def P_written_by : List PySem.Str := ["log", "write"]
theorem sc_written_by : FnScope N_written_by P_written_by (defScope (top 36)) := C8.fnScope_by (by decide +kernel)
def f_written_by : En → Res Fl :=
  sRet (dCal 3 F_torn_by (dCons (dVar 0) (dCons (dVar 1) (dCons (dCal 1 F_signs_of (dCons (dVar 1) (dNil))) (dNil)))))
def F_written_by := dFun0 2 f_written_by
theorem ok_written_by (g : G K mg) (k_torn_by : DL.Cl P w K mg base 1 "torn_by" (spD0 K 3 F_torn_by)) (k_signs_of : DL.Cl P w K mg base 1 "signs_of" (spD0 K 1 F_signs_of)) (Fn : FnP K "written_by" (top 36) f fd) : FnOk P w K mg base CX0 2 f fd P_written_by (spD0 K 2 F_written_by) := fn_ok0 (C := cks) (k := 1) Fn sc_written_by rfl fun cdv A outer s H E hr =>
  s_one (s_ret (d_cal k_torn_by hr (a_cons (d_var 0) (a_cons (d_var 1) (a_cons (d_cal k_signs_of hr (a_cons (d_var 1) (a_nil))) (a_nil))))))
def N_behind_writes : List PySem.Str := ["log", "writes", "found", "write"]
def P_behind_writes : List PySem.Str := ["log", "writes"]
theorem sc_behind_writes : FnScope N_behind_writes P_behind_writes (defScope (top 45)) := C8.fnScope_by (by decide +kernel)
def f_behind_writes : En → Res Fl :=
  sSeq (sEx (dCal 1 F_check_signs (dCons (dVar 0) (dNil))))
  (sSeq (sIf (dNot (dTr (dIsi "tuple" (dVar 1)))) (sNo) (sNx))
  (sSeq (sAs (dVar 0) (gN 2))
  (sSeq (sFor (dIt (dVar 1)) (gN 3)
  (sSeq (sEx (dCal 2 F_check_write (dCons (dVar 2) (dCons (dVar 3) (dNil)))))
  (sAs (dCal 2 F_written_by (dCons (dVar 2) (dCons (dVar 3) (dNil)))) (gN 2))))
  (sRet (dVar 2)))))
def F_behind_writes := dFun0 4 f_behind_writes
theorem ok_behind_writes (g : G K mg) (k_written_by : DL.Cl P w K mg base 2 "written_by" (spD0 K 2 F_written_by)) (k_check_write : DL.Cl P w K mg base 4 "check_write" (spD0 K 2 F_check_write)) (k_check_signs : DL.Cl P w K mg base 3 "check_signs" (spD0 K 1 F_check_signs)) (Fn : FnP K "behind_writes" (top 45) f fd) : FnOk P w K mg base CX0 5 f fd P_behind_writes (spD0 K 2 F_behind_writes) := fn_ok0 (C := cks) (k := 4) Fn sc_behind_writes rfl fun cdv A outer s H E hr =>
  s_cons (s_expr (d_cal k_check_signs hr (a_cons (d_var 0) (a_nil))))
  (s_cons (s_if (t_not (t_val (d_isi "tuple" (by decide +kernel) g.n_isinstance g.n_tuple (by decide +kernel) (d_var 1)))) (s_one (s_never)) (s_nil))
  (s_cons (s_set 2 (d_var 0) sc_behind_writes.nd)
  (s_cons (s_for PassesOwn.never rfl (i_val (d_var 1)) (pg_name sc_behind_writes.nd rfl (by first | exact Or.inl rfl | exact Or.inr rfl)) (tg_name)
  (s_cons (s_expr (d_cal k_check_write hr (a_cons (d_var 2) (a_cons (d_var 3) (a_nil)))))
  (s_one (s_set 2 (d_cal k_written_by hr (a_cons (d_var 2) (a_cons (d_var 3) (a_nil)))) sc_behind_writes.nd))))
  (s_one (s_ret (d_var 2))))))
def N_check_of : List PySem.Str := ["text", "place", "sign"]
def P_check_of : List PySem.Str := ["text"]
theorem sc_check_of : FnScope N_check_of P_check_of (defScope (top 28)) := C8.fnScope_by (by decide +kernel)
def f_check_of : En → Res Fl :=
  sRet (dBin gMod (dCall gSum (dCons (dFz (dLc [1, 2] (dEn (dCons (dVar 0) (dCons (dC (.int 1)) (dNil)))) (gT (gsC (gN 1) (gsC (gN 2) (gs0)))) (dYes) (dBin gMul (dVar 1) (dBin gAdd (dMt "str" gIndexS (dC c_SIGNS) (dCons (dVar 2) (dNil))) (dC (.int 1)))))) (dNil))) (dC c_MODULUS))
def F_check_of := dFun0 3 f_check_of
theorem ok_check_of (g : G K mg) (Fn : FnP K "check_of" (top 28) f fd) : FnOk P w K mg base CX0 1 f fd P_check_of (spD0 K 1 F_check_of) := fn_ok0 (C := cks) (k := 0) Fn sc_check_of rfl fun cdv A outer s H E hr =>
  s_one (s_ret (d_bin op_mod mod_ok (d_callB (cr_sum rfl) sum_ok g.n_sum (by decide +kernel) (a_cons (d_fz (f_lc rfl sc_check_of.nd (i_enum2 g.n_enumerate (a_cons (d_var 0) (a_cons (d_int) (a_nil)))) (blkOk_by (own := [("place", 1), ("sign", 2)]) (by kernel_rfl)) (tg_tup (tgs_cons (tg_name) (tgs_cons (tg_name) (tgs_nil))) (gsC_len (gsC_len (gs0_len)))) (fun _ h => h) (fun _ _ _ _ _ => pg_tup rfl (pgs_cons (pg_name sc_check_of.nd rfl (by first | exact Or.inl rfl | exact Or.inr rfl)) (pgs_cons (pg_name sc_check_of.nd rfl (by first | exact Or.inl rfl | exact Or.inr rfl)) (pgs_nil)))) (fun _ _ _ _ _ => ts_nil) (fun _ _ _ _ _ => d_bin op_mulA mulA_ok (d_var 1) (d_bin op_addA addA_ok (d_ms PySem.F.slot_str_index PySem.F.type_str_index (mt_indexS rfl) indexS_ok (d_glE g.c_SIGNS) (a_cons (d_var 2) (a_nil))) (d_int))))) (a_nil))) (d_glE g.c_MODULUS)))
def N_text_at : List PySem.Str := ["stream", "start", "head", "length", "check", "text"]
def P_text_at : List PySem.Str := ["stream", "start"]
theorem sc_text_at : FnScope N_text_at P_text_at (defScope (top 30)) := C8.fnScope_by (by decide +kernel)
def f_text_at : En → Res Fl :=
  sSeq (sAs (dSl (dVar 0) (dPt (dVar 1)) (dPt (dBin gAdd (dVar 1) (dC c_HEAD)))) (gN 2))
  (sSeq (sIf (dOr (dBo (dBin gLt (dCall gLen (dCons (dVar 2) (dNil))) (dC c_HEAD))) (dNot (dTr (dCal 2 F_is_text_of (dCons (dVar 2) (dCons (dC c_DIGITS) (dNil))))))) (sRet (dC .non)) (sNx))
  (sSeq (sPar [3, 4] (mVl (dCall gInt (dCons (dSl (dVar 2) (dNP) (dPt (dC c_LENGTH_DIGITS))) (dNil))) (mVl (dCall gInt (dCons (dSl (dVar 2) (dPt (dC c_LENGTH_DIGITS)) (dNP)) (dNil))) (mNil))))
  (sSeq (sAs (dSl (dVar 0) (dPt (dBin gAdd (dVar 1) (dC c_HEAD))) (dPt (dBin gAdd (dBin gAdd (dVar 1) (dC c_HEAD)) (dVar 3)))) (gN 5))
  (sSeq (sIf (dOr (dBo (dBin gEq (dVar 3) (dC (.int 0)))) (dOr (dBo (dBin gLt (dCall gLen (dCons (dVar 5) (dNil))) (dVar 3))) (dNot (dTr (dCal 2 F_is_text_of (dCons (dVar 5) (dCons (dC c_SIGNS) (dNil)))))))) (sRet (dC .non)) (sNx))
  (sRet (dIf (dBo (dBin gEq (dCal 1 F_check_of (dCons (dVar 5) (dNil))) (dVar 4))) (dVar 5) (dC .non)))))))
def F_text_at := dFun0 6 f_text_at
theorem ok_text_at (g : G K mg) (k_check_of : DL.Cl P w K mg base 1 "check_of" (spD0 K 1 F_check_of)) (k_is_text_of : DL.Cl P w K mg base 1 "is_text_of" (spD0 K 2 F_is_text_of)) (Fn : FnP K "text_at" (top 30) f fd) : FnOk P w K mg base CX0 2 f fd P_text_at (spD0 K 2 F_text_at) := fn_ok0 (C := cks) (k := 1) Fn sc_text_at rfl fun cdv A outer s H E hr =>
  s_cons (s_set 2 (d_sl (d_var 0) (p_some (d_var 1)) (p_some (d_bin op_addA addA_ok (d_var 1) (d_glE g.c_HEAD)))) sc_text_at.nd)
  (s_cons (s_if (t_w (w_or (t_cmp op_lt lt_ok (d_callB call_len len_ok g.n_len (by decide +kernel) (a_cons (d_var 2) (a_nil))) (d_glE g.c_HEAD) rfl) (w_or1 (t_not (t_val (d_cal k_is_text_of hr (a_cons (d_var 2) (a_cons (d_glE g.c_DIGITS) (a_nil))))))))) (s_one (s_ret (d_non))) (s_nil))
  (s_cons (s_par2 3 4 rfl sc_text_at.nd (m_vl (d_callT call_intA int_okD g.n_int (by decide +kernel) (a_cons (d_sl (d_var 2) (p_none) (p_some (d_glE g.c_LENGTH_DIGITS))) (a_nil))) (m_vl (d_callT call_intA int_okD g.n_int (by decide +kernel) (a_cons (d_sl (d_var 2) (p_some (d_glE g.c_LENGTH_DIGITS)) (p_none)) (a_nil))) (m_nil))))
  (s_cons (s_set 5 (d_sl (d_var 0) (p_some (d_bin op_addA addA_ok (d_var 1) (d_glE g.c_HEAD))) (p_some (d_bin op_addA addA_ok (d_bin op_addA addA_ok (d_var 1) (d_glE g.c_HEAD)) (d_var 3)))) sc_text_at.nd)
  (s_cons (s_if (t_w (w_or (t_cmp (op_eqD hr.units) eqD_ok (d_var 3) (d_int) rfl) (w_or (t_cmp op_lt lt_ok (d_callB call_len len_ok g.n_len (by decide +kernel) (a_cons (d_var 5) (a_nil))) (d_var 3) rfl) (w_or1 (t_not (t_val (d_cal k_is_text_of hr (a_cons (d_var 5) (a_cons (d_glE g.c_SIGNS) (a_nil)))))))))) (s_one (s_ret (d_non))) (s_nil))
  (s_one (s_ret (d_if (t_cmp (op_eqD hr.units) eqD_ok (d_cal k_check_of hr (a_cons (d_var 5) (a_nil))) (d_var 4) rfl) (d_var 5) (d_non))))))))
def N_frames_by : List PySem.Str := ["stream", "found", "end", "text"]
def P_frames_by : List PySem.Str := ["stream"]
theorem sc_frames_by : FnScope N_frames_by P_frames_by (defScope (top 31)) := C8.fnScope_by (by decide +kernel)
def f_frames_by : En → Res Fl :=
  sSeq (sPar [1, 2, 3] (mNw (dLst (dNil)) (mVl (dC (.int 0)) (mVl (dCal 2 F_text_at (dCons (dVar 0) (dCons (dC (.int 0)) (dNil)))) (mNil)))))
  (sSeq (sWhile (dBo (dBin (gNot gIs) (dVar 3) (dC .non))) (sSeq (sEx (dApp 1 (dVar 3)))
  (sSeq (sAs (dBin gAdd (dBin gAdd (dVar 2) (dC c_HEAD)) (dCall gLen (dCons (dVar 3) (dNil)))) (gN 2))
  (sAs (dCal 2 F_text_at (dCons (dVar 0) (dCons (dVar 2) (dNil)))) (gN 3)))) LIM)
  (sRet (dTup (dCons (dVar 1) (dCons (dVar 2) (dNil))))))
def F_frames_by := dFun0 4 f_frames_by
theorem ok_frames_by (g : G K mg) (k_text_at : DL.Cl P w K mg base 2 "text_at" (spD0 K 2 F_text_at)) (Fn : FnP K "frames_by" (top 31) f fd) : FnOk P w K mg base CX0 3 f fd P_frames_by (spD0 K 1 F_frames_by) := fn_ok0 (C := cks) (k := 2) Fn sc_frames_by rfl fun cdv A outer s H E hr =>
  s_cons (s_par3 1 2 3 rfl sc_frames_by.nd (m_nw (f_lst (a_nil)) (m_vl (d_int) (m_vl (d_cal k_text_at hr (a_cons (d_var 0) (a_cons (d_int) (a_nil)))) (m_nil)))))
  (s_cons (s_while LIM PassesOwn.never (t_cmp op_notN notN_ok (d_var 3) (d_non) rfl) (s_cons (s_expr (d_app 1 (d_var 3)))
  (s_cons (s_set 2 (d_bin op_addA addA_ok (d_bin op_addA addA_ok (d_var 2) (d_glE g.c_HEAD)) (d_callB call_len len_ok g.n_len (by decide +kernel) (a_cons (d_var 3) (a_nil)))) sc_frames_by.nd)
  (s_one (s_set 3 (d_cal k_text_at hr (a_cons (d_var 0) (a_cons (d_var 2) (a_nil)))) sc_frames_by.nd)))))
  (s_one (s_ret (d_tup (a_cons (d_var 1) (a_cons (d_var 2) (a_nil)))))))
def N_whole_notes : List PySem.Str := ["log", "notes", "_", "ends", "index", "note"]
def P_whole_notes : List PySem.Str := ["log"]
theorem sc_whole_notes : FnScope N_whole_notes P_whole_notes (defScope (top 37)) := C8.fnScope_by (by decide +kernel)
def f_whole_notes : En → Res Fl :=
  sSeq (sAs (dCal 1 F_frames_by (dCons (dVar 0) (dNil))) (gT (gsC (gN 1) (gsC (gN 2) (gs0)))))
  (sSeq (sAs (dFz (dLc [4, 5] (dEn (dCons (dVar 1) (dCons (dC (.int 1)) (dNil)))) (gT (gsC (gN 4) (gsC (gN 5) (gs0)))) (dTr (dMt "str" gStarts (dVar 5) (dCons (dBin gAdd (dC c_OF_END) (dC c_BLANK)) (dNil)))) (dVar 4))) (gN 3))
  (sRet (dSl (dVar 1) (dNP) (dPt (dCallK gMaxD (dCons (dVar 3) (dNil)) (dCons (dC (.int 0)) (dNil)))))))
def F_whole_notes := dFun0 6 f_whole_notes
theorem ok_whole_notes (g : G K mg) (k_frames_by : DL.Cl P w K mg base 3 "frames_by" (spD0 K 1 F_frames_by)) (Fn : FnP K "whole_notes" (top 37) f fd) : FnOk P w K mg base CX0 4 f fd P_whole_notes (spD0 K 1 F_whole_notes) := fn_ok0 (C := cks) (k := 3) Fn sc_whole_notes rfl fun cdv A outer s H E hr =>
  s_cons (s_asgS (d_cal k_frames_by hr (a_cons (d_var 0) (a_nil))) (pg_tup rfl (pgs_cons (pg_name sc_whole_notes.nd rfl (by first | exact Or.inl rfl | exact Or.inr rfl)) (pgs_cons (pg_name sc_whole_notes.nd rfl (by first | exact Or.inl rfl | exact Or.inr rfl)) (pgs_nil)))) (ts_tup (tss_cons (TgD.s (tg_name)) (tss_cons (TgD.s (tg_name)) (tss_nil))) (gsC_len (gsC_len (gs0_len)))))
  (s_cons (s_setLc 3 rfl sc_whole_notes.nd (i_enum2 g.n_enumerate (a_cons (d_var 1) (a_cons (d_int) (a_nil)))) (blkOk_by (own := [("index", 4), ("note", 5)]) (by kernel_rfl)) (tg_tup (tgs_cons (tg_name) (tgs_cons (tg_name) (tgs_nil))) (gsC_len (gsC_len (gs0_len)))) (fun _ h => h) (fun _ _ _ _ _ => pg_tup rfl (pgs_cons (pg_name sc_whole_notes.nd rfl (by first | exact Or.inl rfl | exact Or.inr rfl)) (pgs_cons (pg_name sc_whole_notes.nd rfl (by first | exact Or.inl rfl | exact Or.inr rfl)) (pgs_nil)))) (fun _ _ _ _ _ => ts_one (t_val (d_ms PySem.F.slot_str_startswith PySem.F.type_str_startswith mt_startswith starts_ok (d_var 5) (a_cons (d_bin op_addA addA_ok (d_glE g.c_OF_END) (d_glE g.c_BLANK)) (a_nil))))) (fun _ _ _ _ _ => d_var 4))
  (s_one (s_ret (d_sl (d_var 1) (p_none) (p_some (d_callBK (cr_maxDf rfl) maxDf_ok g.n_max (by decide +kernel) (a_cons (d_var 3) (a_nil)) (k_cons (d_int) (k_nil))))))))
def N_end_of : List PySem.Str := ["notes", "note"]
def P_end_of : List PySem.Str := ["notes"]
theorem sc_end_of : FnScope N_end_of P_end_of (defScope (top 38)) := C8.fnScope_by (by decide +kernel)
def f_end_of : En → Res Fl :=
  sRet (dCall gSum (dCons (dFz (dLc [1] (dIt (dVar 0)) (gN 1) (dYes) (dBin gAdd (dC c_HEAD) (dCall gLen (dCons (dVar 1) (dNil)))))) (dNil)))
def F_end_of := dFun0 2 f_end_of
theorem ok_end_of (g : G K mg) (Fn : FnP K "end_of" (top 38) f fd) : FnOk P w K mg base CX0 1 f fd P_end_of (spD0 K 1 F_end_of) := fn_ok0 (C := cks) (k := 0) Fn sc_end_of rfl fun cdv A outer s H E hr =>
  s_one (s_ret (d_callB (cr_sum rfl) sum_ok g.n_sum (by decide +kernel) (a_cons (d_fz (f_lc rfl sc_end_of.nd (i_val (d_var 0)) (blkOk_by (own := [("note", 1)]) (by kernel_rfl)) (tg_name) (fun _ h => h) (fun _ _ _ _ _ => pg_name sc_end_of.nd rfl (by first | exact Or.inl rfl | exact Or.inr rfl)) (fun _ _ _ _ _ => ts_nil) (fun _ _ _ _ _ => d_bin op_addA addA_ok (d_glE g.c_HEAD) (d_callB call_len len_ok g.n_len (by decide +kernel) (a_cons (d_var 1) (a_nil)))))) (a_nil))))
def N_cut_writes : List PySem.Str := ["log", "end"]
def P_cut_writes : List PySem.Str := ["log", "end"]
theorem sc_cut_writes : FnScope N_cut_writes P_cut_writes (defScope (top 39)) := C8.fnScope_by (by decide +kernel)
def f_cut_writes : En → Res Fl :=
  sRet (dIf (dBo (dBin gLt (dVar 1) (dCall gLen (dCons (dVar 0) (dNil))))) (dFz (dLst (dCons (dTup (dCons (dC c_CUT) (dCons (dVar 1) (dNil)))) (dNil)))) (dFz (dLst (dNil))))
def F_cut_writes := dFun0 2 f_cut_writes
theorem ok_cut_writes (g : G K mg) (Fn : FnP K "cut_writes" (top 39) f fd) : FnOk P w K mg base CX0 1 f fd P_cut_writes (spD0 K 2 F_cut_writes) := fn_ok0 (C := cks) (k := 0) Fn sc_cut_writes rfl fun cdv A outer s H E hr =>
  s_one (s_ret (d_if (t_cmp op_lt lt_ok (d_var 1) (d_callB call_len len_ok g.n_len (by decide +kernel) (a_cons (d_var 0) (a_nil))) rfl) (d_fz (f_lst (a_cons (d_tup (a_cons (d_glE g.c_CUT) (a_cons (d_var 1) (a_nil)))) (a_nil)))) (d_fz (f_lst (a_nil)))))
def N_opened_by : List PySem.Str := ["log", "notes"]
def P_opened_by : List PySem.Str := ["log"]
theorem sc_opened_by : FnScope N_opened_by P_opened_by (defScope (top 40)) := C8.fnScope_by (by decide +kernel)
def f_opened_by : En → Res Fl :=
  sSeq (sAs (dCal 1 F_whole_notes (dCons (dVar 0) (dNil))) (gN 1))
  (sRet (dTup (dCons (dVar 1) (dCons (dCal 1 F_end_of (dCons (dVar 1) (dNil))) (dCons (dCal 2 F_cut_writes (dCons (dVar 0) (dCons (dCal 1 F_end_of (dCons (dVar 1) (dNil))) (dNil)))) (dNil))))))
def F_opened_by := dFun0 2 f_opened_by
theorem ok_opened_by (g : G K mg) (k_cut_writes : DL.Cl P w K mg base 1 "cut_writes" (spD0 K 2 F_cut_writes)) (k_end_of : DL.Cl P w K mg base 1 "end_of" (spD0 K 1 F_end_of)) (k_whole_notes : DL.Cl P w K mg base 4 "whole_notes" (spD0 K 1 F_whole_notes)) (Fn : FnP K "opened_by" (top 40) f fd) : FnOk P w K mg base CX0 5 f fd P_opened_by (spD0 K 1 F_opened_by) := fn_ok0 (C := cks) (k := 4) Fn sc_opened_by rfl fun cdv A outer s H E hr =>
  s_cons (s_set 1 (d_cal k_whole_notes hr (a_cons (d_var 0) (a_nil))) sc_opened_by.nd)
  (s_one (s_ret (d_tup (a_cons (d_var 1) (a_cons (d_cal k_end_of hr (a_cons (d_var 1) (a_nil))) (a_cons (d_cal k_cut_writes hr (a_cons (d_var 0) (a_cons (d_cal k_end_of hr (a_cons (d_var 1) (a_nil))) (a_nil)))) (a_nil)))))))
def N_opened : List PySem.Str := ["log", "notes", "end", "writes"]
def P_opened : List PySem.Str := ["log"]
theorem sc_opened : FnScope N_opened P_opened (defScope (top 46)) := C8.fnScope_by (by decide +kernel)
def f_opened : En → Res Fl :=
  sSeq (sEx (dCal 1 F_check_signs (dCons (dVar 0) (dNil))))
  (sSeq (sAs (dCal 1 F_opened_by (dCons (dVar 0) (dNil))) (gT (gsC (gN 1) (gsC (gN 2) (gsC (gN 3) (gs0))))))
  (sRet (dTup (dCons (dCall gTuple (dCons (dVar 1) (dNil))) (dCons (dVar 2) (dCons (dCall gTuple (dCons (dVar 3) (dNil))) (dNil)))))))
def F_opened := dFun0 4 f_opened
theorem ok_opened (g : G K mg) (k_opened_by : DL.Cl P w K mg base 5 "opened_by" (spD0 K 1 F_opened_by)) (k_check_signs : DL.Cl P w K mg base 3 "check_signs" (spD0 K 1 F_check_signs)) (Fn : FnP K "opened" (top 46) f fd) : FnOk P w K mg base CX0 6 f fd P_opened (spD0 K 1 F_opened) := fn_ok0 (C := cks) (k := 5) Fn sc_opened rfl fun cdv A outer s H E hr =>
  s_cons (s_expr (d_cal k_check_signs hr (a_cons (d_var 0) (a_nil))))
  (s_cons (s_asgS (d_cal k_opened_by hr (a_cons (d_var 0) (a_nil))) (pg_tup rfl (pgs_cons (pg_name sc_opened.nd rfl (by first | exact Or.inl rfl | exact Or.inr rfl)) (pgs_cons (pg_name sc_opened.nd rfl (by first | exact Or.inl rfl | exact Or.inr rfl)) (pgs_cons (pg_name sc_opened.nd rfl (by first | exact Or.inl rfl | exact Or.inr rfl)) (pgs_nil))))) (ts_tup (tss_cons (TgD.s (tg_name)) (tss_cons (TgD.s (tg_name)) (tss_cons (TgD.s (tg_name)) (tss_nil)))) (gsC_len (gsC_len (gsC_len (gs0_len))))))
  (s_one (s_ret (d_tup (a_cons (d_callT call_tuple_of tuple_ok g.n_tuple (by decide +kernel) (a_cons (d_var 1) (a_nil))) (a_cons (d_var 2) (a_cons (d_callT call_tuple_of tuple_ok g.n_tuple (by decide +kernel) (a_cons (d_var 3) (a_nil))) (a_nil))))))))
def N_frame_of : List PySem.Str := ["text"]
def P_frame_of : List PySem.Str := ["text"]
theorem sc_frame_of : FnScope N_frame_of P_frame_of (defScope (top 29)) := C8.fnScope_by (by decide +kernel)
def f_frame_of : En → Res Fl :=
  sRet (dBin gAdd (dBin gAdd (dMt "str" gZfill (dCall gStr (dCons (dCall gLen (dCons (dVar 0) (dNil))) (dNil))) (dCons (dC c_LENGTH_DIGITS) (dNil))) (dMt "str" gZfill (dCall gStr (dCons (dCal 1 F_check_of (dCons (dVar 0) (dNil))) (dNil))) (dCons (dC c_CHECK_DIGITS) (dNil)))) (dVar 0))
def F_frame_of := dFun0 1 f_frame_of
theorem ok_frame_of (g : G K mg) (k_check_of : DL.Cl P w K mg base 1 "check_of" (spD0 K 1 F_check_of)) (Fn : FnP K "frame_of" (top 29) f fd) : FnOk P w K mg base CX0 2 f fd P_frame_of (spD0 K 1 F_frame_of) := fn_ok0 (C := cks) (k := 1) Fn sc_frame_of rfl fun cdv A outer s H E hr =>
  s_one (s_ret (d_bin op_addA addA_ok (d_bin op_addA addA_ok (d_ms PySem.F.slot_str_zfill PySem.F.type_str_zfill mt_zfill zfill_ok (d_callT call_strA str_ok g.n_str (by decide +kernel) (a_cons (d_callB call_len len_ok g.n_len (by decide +kernel) (a_cons (d_var 0) (a_nil))) (a_nil))) (a_cons (d_glE g.c_LENGTH_DIGITS) (a_nil))) (d_ms PySem.F.slot_str_zfill PySem.F.type_str_zfill mt_zfill zfill_ok (d_callT call_strA str_ok g.n_str (by decide +kernel) (a_cons (d_cal k_check_of hr (a_cons (d_var 0) (a_nil))) (a_nil))) (a_cons (d_glE g.c_CHECK_DIGITS) (a_nil)))) (d_var 0)))
def N_frame : List PySem.Str := ["text"]
def P_frame : List PySem.Str := ["text"]
theorem sc_frame : FnScope N_frame P_frame (defScope (top 49)) := C8.fnScope_by (by decide +kernel)
def f_frame : En → Res Fl :=
  sSeq (sEx (dCal 1 F_check_signs (dCons (dVar 0) (dNil))))
  (sSeq (sIf (dNot (dBo (dCh gLe gLe (dC (.int 1)) (dCall gLen (dCons (dVar 0) (dNil))) (dC c_LONGEST_FRAMED)))) (sNo) (sNx))
  (sRet (dCal 1 F_frame_of (dCons (dVar 0) (dNil)))))
def F_frame := dFun0 1 f_frame
theorem ok_frame (g : G K mg) (k_frame_of : DL.Cl P w K mg base 2 "frame_of" (spD0 K 1 F_frame_of)) (k_check_signs : DL.Cl P w K mg base 3 "check_signs" (spD0 K 1 F_check_signs)) (Fn : FnP K "frame" (top 49) f fd) : FnOk P w K mg base CX0 4 f fd P_frame (spD0 K 1 F_frame) := fn_ok0 (C := cks) (k := 3) Fn sc_frame rfl fun cdv A outer s H E hr =>
  s_cons (s_expr (d_cal k_check_signs hr (a_cons (d_var 0) (a_nil))))
  (s_cons (s_if (t_not (t_ch op_le le_ok op_le le_ok (d_int) (d_callB call_len len_ok g.n_len (by decide +kernel) (a_cons (d_var 0) (a_nil))) (d_glE g.c_LONGEST_FRAMED))) (s_one (s_never)) (s_nil))
  (s_one (s_ret (d_cal k_frame_of hr (a_cons (d_var 0) (a_nil))))))
def N_check_between : List PySem.Str := ["number", "low", "high"]
def P_check_between : List PySem.Str := ["number", "low", "high"]
theorem sc_check_between : FnScope N_check_between P_check_between (defScope (top 43)) := C8.fnScope_by (by decide +kernel)
def f_check_between : En → Res Fl :=
  sIf (dNot (dTr (dCal 3 F_is_between (dCons (dVar 0) (dCons (dVar 1) (dCons (dVar 2) (dNil))))))) (sNo) (sNx)
def F_check_between := dFun0 3 f_check_between
theorem ok_check_between (g : G K mg) (k_is_between : DL.Cl P w K mg base 2 "is_between" (spD0 K 3 F_is_between)) (Fn : FnP K "check_between" (top 43) f fd) : FnOk P w K mg base CX0 3 f fd P_check_between (spD0 K 3 F_check_between) := fn_ok0 (C := cks) (k := 2) Fn sc_check_between rfl fun cdv A outer s H E hr =>
  s_one (s_if (t_not (t_val (d_cal k_is_between hr (a_cons (d_var 0) (a_cons (d_var 1) (a_cons (d_var 2) (a_nil))))))) (s_one (s_never)) (s_nil))
def N_torn : List PySem.Str := ["log", "write", "number"]
def P_torn : List PySem.Str := ["log", "write", "number"]
theorem sc_torn : FnScope N_torn P_torn (defScope (top 44)) := C8.fnScope_by (by decide +kernel)
def f_torn : En → Res Fl :=
  sSeq (sEx (dCal 1 F_check_signs (dCons (dVar 0) (dNil))))
  (sSeq (sEx (dCal 2 F_check_write (dCons (dVar 0) (dCons (dVar 1) (dNil)))))
  (sSeq (sEx (dCal 3 F_check_between (dCons (dVar 2) (dCons (dC (.int 0)) (dCons (dCal 1 F_signs_of (dCons (dVar 1) (dNil))) (dNil))))))
  (sRet (dCal 3 F_torn_by (dCons (dVar 0) (dCons (dVar 1) (dCons (dVar 2) (dNil))))))))
def F_torn := dFun0 3 f_torn
theorem ok_torn (g : G K mg) (k_torn_by : DL.Cl P w K mg base 1 "torn_by" (spD0 K 3 F_torn_by)) (k_check_between : DL.Cl P w K mg base 3 "check_between" (spD0 K 3 F_check_between)) (k_signs_of : DL.Cl P w K mg base 1 "signs_of" (spD0 K 1 F_signs_of)) (k_check_write : DL.Cl P w K mg base 4 "check_write" (spD0 K 2 F_check_write)) (k_check_signs : DL.Cl P w K mg base 3 "check_signs" (spD0 K 1 F_check_signs)) (Fn : FnP K "torn" (top 44) f fd) : FnOk P w K mg base CX0 5 f fd P_torn (spD0 K 3 F_torn) := fn_ok0 (C := cks) (k := 4) Fn sc_torn rfl fun cdv A outer s H E hr =>
  s_cons (s_expr (d_cal k_check_signs hr (a_cons (d_var 0) (a_nil))))
  (s_cons (s_expr (d_cal k_check_write hr (a_cons (d_var 0) (a_cons (d_var 1) (a_nil)))))
  (s_cons (s_expr (d_cal k_check_between hr (a_cons (d_var 2) (a_cons (d_int) (a_cons (d_cal k_signs_of hr (a_cons (d_var 1) (a_nil))) (a_nil))))))
  (s_one (s_ret (d_cal k_torn_by hr (a_cons (d_var 0) (a_cons (d_var 1) (a_cons (d_var 2) (a_nil)))))))))
def N_check_text : List PySem.Str := ["text"]
def P_check_text : List PySem.Str := ["text"]
theorem sc_check_text : FnScope N_check_text P_check_text (defScope (top 15)) := C8.fnScope_by (by decide +kernel)
def f_check_text : En → Res Fl :=
  sIf (dNot (dTr (dIsi "str" (dVar 0)))) (sNo) (sNx)
def F_check_text := dFun0 1 f_check_text
theorem ok_check_text (g : G K mg) (Fn : FnP K "check_text" (top 15) f fd) : FnOk P w K mg base CX0 1 f fd P_check_text (spD0 K 1 F_check_text) := fn_ok0 (C := cks) (k := 0) Fn sc_check_text rfl fun cdv A outer s H E hr =>
  s_one (s_if (t_not (t_val (d_isi "str" (by decide +kernel) g.n_isinstance g.n_str (by decide +kernel) (d_var 0)))) (s_one (s_never)) (s_nil))
def N_frames_in : List PySem.Str := ["text", "texts", "end"]
def P_frames_in : List PySem.Str := ["text"]
theorem sc_frames_in : FnScope N_frames_in P_frames_in (defScope (top 50)) := C8.fnScope_by (by decide +kernel)
def f_frames_in : En → Res Fl :=
  sSeq (sEx (dCal 1 F_check_text (dCons (dVar 0) (dNil))))
  (sSeq (sAs (dCal 1 F_frames_by (dCons (dVar 0) (dNil))) (gT (gsC (gN 1) (gsC (gN 2) (gs0)))))
  (sRet (dTup (dCons (dCall gTuple (dCons (dVar 1) (dNil))) (dCons (dVar 2) (dNil))))))
def F_frames_in := dFun0 3 f_frames_in
theorem ok_frames_in (g : G K mg) (k_frames_by : DL.Cl P w K mg base 3 "frames_by" (spD0 K 1 F_frames_by)) (k_check_text : DL.Cl P w K mg base 1 "check_text" (spD0 K 1 F_check_text)) (Fn : FnP K "frames_in" (top 50) f fd) : FnOk P w K mg base CX0 4 f fd P_frames_in (spD0 K 1 F_frames_in) := fn_ok0 (C := cks) (k := 3) Fn sc_frames_in rfl fun cdv A outer s H E hr =>
  s_cons (s_expr (d_cal k_check_text hr (a_cons (d_var 0) (a_nil))))
  (s_cons (s_asgS (d_cal k_frames_by hr (a_cons (d_var 0) (a_nil))) (pg_tup rfl (pgs_cons (pg_name sc_frames_in.nd rfl (by first | exact Or.inl rfl | exact Or.inr rfl)) (pgs_cons (pg_name sc_frames_in.nd rfl (by first | exact Or.inl rfl | exact Or.inr rfl)) (pgs_nil)))) (ts_tup (tss_cons (TgD.s (tg_name)) (tss_cons (TgD.s (tg_name)) (tss_nil))) (gsC_len (gsC_len (gs0_len)))))
  (s_one (s_ret (d_tup (a_cons (d_callT call_tuple_of tuple_ok g.n_tuple (by decide +kernel) (a_cons (d_var 1) (a_nil))) (a_cons (d_var 2) (a_nil)))))))
def N_l_frames_in : List PySem.Str := ["stream", "texts", "end", "turn", "head", "sign", "size", "text"]
def P_l_frames_in : List PySem.Str := ["stream"]
theorem sc_l_frames_in : FnScope N_l_frames_in P_l_frames_in (defScope (top 60)) := C8.fnScope_by (by decide +kernel)
def f_l_frames_in : En → Res Fl :=
  sSeq (sAs (dTup (dCons (dTup (dNil)) (dCons (dC (.int 0)) (dNil)))) (gT (gsC (gN 1) (gsC (gN 2) (gs0)))))
  (sSeq (sFor (dR1 (dCons (dCall gLen (dCons (dVar 0) (dNil))) (dNil))) (gN 3)
  (sSeq (sAs (dSl (dVar 0) (dPt (dVar 2)) (dPt (dBin gAdd (dVar 2) (dC (.int 7))))) (gN 4))
  (sSeq (sIf (dOr (dBo (dBin gLt (dCall gLen (dCons (dVar 4) (dNil))) (dC (.int 7)))) (dBo (dBin gNe (dFz (dLc [5] (dIt (dVar 4)) (gN 5) (dBo (dBin (gNot gIn) (dVar 5) (dC (.str [48, 49, 50, 51, 52, 53, 54, 55, 56, 57])))) (dVar 5))) (dFz (dLst (dNil)))))) (sRet (dTup (dCons (dVar 1) (dCons (dVar 2) (dNil))))) (sNx))
  (sSeq (sAs (dCall gInt (dCons (dSl (dVar 4) (dNP) (dPt (dC (.int 4)))) (dNil))) (gN 6))
  (sSeq (sAs (dSl (dVar 0) (dPt (dBin gAdd (dVar 2) (dC (.int 7)))) (dPt (dBin gAdd (dBin gAdd (dVar 2) (dC (.int 7))) (dVar 6)))) (gN 7))
  (sSeq (sIf (dOr (dBo (dBin gEq (dVar 6) (dC (.int 0)))) (dOr (dBo (dBin gLt (dCall gLen (dCons (dVar 7) (dNil))) (dVar 6))) (dBo (dBin gNe (dFz (dLc [5] (dIt (dVar 7)) (gN 5) (dBo (dBin (gNot gIn) (dVar 5) (dC (.str [32, 40, 41, 44, 45, 46, 47, 48, 49, 50, 51, 52, 53, 54, 55, 56, 57, 60, 61, 62, 124, 97, 98, 99, 100, 101, 102, 103, 104, 105, 106, 107, 108, 109, 110, 111, 112, 113, 114, 115, 116, 117, 118, 119, 120, 121, 122])))) (dVar 5))) (dFz (dLst (dNil))))))) (sRet (dTup (dCons (dVar 1) (dCons (dVar 2) (dNil))))) (sNx))
  (sSeq (sIf (dBo (dBin gNe (dCal 2 F_l_digits (dCons (dCal 1 F_l_check (dCons (dVar 7) (dNil))) (dCons (dC (.int 3)) (dNil)))) (dSl (dVar 4) (dPt (dC (.int 4))) (dNP)))) (sRet (dTup (dCons (dVar 1) (dCons (dVar 2) (dNil))))) (sNx))
  (sPar [1, 2] (mVl (dBin gAdd (dVar 1) (dTup (dCons (dVar 7) (dNil)))) (mVl (dBin gAdd (dBin gAdd (dVar 2) (dC (.int 7))) (dVar 6)) (mNil)))))))))))
  (sRet (dTup (dCons (dVar 1) (dCons (dVar 2) (dNil))))))
def F_l_frames_in := dFun0 8 f_l_frames_in
theorem ok_l_frames_in (g : G K mg) (k_l_digits : DL.Cl P w K mg base 1 "_law_digits" (spD0 K 2 F_l_digits)) (k_l_check : DL.Cl P w K mg base 1 "_law_check" (spD0 K 1 F_l_check)) (Fn : FnP K "_law_frames_in" (top 60) f fd) : FnOk P w K mg base CX0 2 f fd P_l_frames_in (spD0 K 1 F_l_frames_in) := fn_ok0 (C := cks) (k := 1) Fn sc_l_frames_in rfl fun cdv A outer s H E hr =>
  s_cons (s_asgS (d_tup (a_cons (d_tup (a_nil)) (a_cons (d_int) (a_nil)))) (pg_tup rfl (pgs_cons (pg_name sc_l_frames_in.nd rfl (by first | exact Or.inl rfl | exact Or.inr rfl)) (pgs_cons (pg_name sc_l_frames_in.nd rfl (by first | exact Or.inl rfl | exact Or.inr rfl)) (pgs_nil)))) (ts_tup (tss_cons (TgD.s (tg_name)) (tss_cons (TgD.s (tg_name)) (tss_nil))) (gsC_len (gsC_len (gs0_len)))))
  (s_cons (s_for PassesOwn.never rfl (i_range1 g.n_range (a_cons (d_callB call_len len_ok g.n_len (by decide +kernel) (a_cons (d_var 0) (a_nil))) (a_nil))) (pg_name sc_l_frames_in.nd rfl (by first | exact Or.inl rfl | exact Or.inr rfl)) (tg_name)
  (s_cons (s_set 4 (d_sl (d_var 0) (p_some (d_var 2)) (p_some (d_bin op_addA addA_ok (d_var 2) (d_int)))) sc_l_frames_in.nd)
  (s_cons (s_if (t_w (w_or (t_cmp op_lt lt_ok (d_callB call_len len_ok g.n_len (by decide +kernel) (a_cons (d_var 4) (a_nil))) (d_int) rfl) (w_or1 (t_cmp (op_neD hr.units) neD_ok (d_fz (f_lc rfl sc_l_frames_in.nd (i_val (d_var 4)) (blkOk_by (own := [("sign", 5)]) (by kernel_rfl)) (tg_name) (fun _ h => h) (fun _ _ _ _ _ => pg_name sc_l_frames_in.nd rfl (by first | exact Or.inl rfl | exact Or.inr rfl)) (fun _ _ _ _ _ => ts_one (t_cmp op_notInA notInA_ok (d_var 5) (d_str [48, 49, 50, 51, 52, 53, 54, 55, 56, 57] (by rfl) (by rfl)) rfl)) (fun _ _ _ _ _ => d_var 5))) (d_fz (f_lst (a_nil))) rfl)))) (s_one (s_ret (d_tup (a_cons (d_var 1) (a_cons (d_var 2) (a_nil)))))) (s_nil))
  (s_cons (s_set 6 (d_callT call_intA int_okD g.n_int (by decide +kernel) (a_cons (d_sl (d_var 4) (p_none) (p_some (d_int))) (a_nil))) sc_l_frames_in.nd)
  (s_cons (s_set 7 (d_sl (d_var 0) (p_some (d_bin op_addA addA_ok (d_var 2) (d_int))) (p_some (d_bin op_addA addA_ok (d_bin op_addA addA_ok (d_var 2) (d_int)) (d_var 6)))) sc_l_frames_in.nd)
  (s_cons (s_if (t_w (w_or (t_cmp (op_eqD hr.units) eqD_ok (d_var 6) (d_int) rfl) (w_or (t_cmp op_lt lt_ok (d_callB call_len len_ok g.n_len (by decide +kernel) (a_cons (d_var 7) (a_nil))) (d_var 6) rfl) (w_or1 (t_cmp (op_neD hr.units) neD_ok (d_fz (f_lc rfl sc_l_frames_in.nd (i_val (d_var 7)) (blkOk_by (own := [("sign", 5)]) (by kernel_rfl)) (tg_name) (fun _ h => h) (fun _ _ _ _ _ => pg_name sc_l_frames_in.nd rfl (by first | exact Or.inl rfl | exact Or.inr rfl)) (fun _ _ _ _ _ => ts_one (t_cmp op_notInA notInA_ok (d_var 5) (d_str [32, 40, 41, 44, 45, 46, 47, 48, 49, 50, 51, 52, 53, 54, 55, 56, 57, 60, 61, 62, 124, 97, 98, 99, 100, 101, 102, 103, 104, 105, 106, 107, 108, 109, 110, 111, 112, 113, 114, 115, 116, 117, 118, 119, 120, 121, 122] (by rfl) (by rfl)) rfl)) (fun _ _ _ _ _ => d_var 5))) (d_fz (f_lst (a_nil))) rfl))))) (s_one (s_ret (d_tup (a_cons (d_var 1) (a_cons (d_var 2) (a_nil)))))) (s_nil))
  (s_cons (s_if (t_cmp (op_neD hr.units) neD_ok (d_cal k_l_digits hr (a_cons (d_cal k_l_check hr (a_cons (d_var 7) (a_nil))) (a_cons (d_int) (a_nil)))) (d_sl (d_var 4) (p_some (d_int)) (p_none)) rfl) (s_one (s_ret (d_tup (a_cons (d_var 1) (a_cons (d_var 2) (a_nil)))))) (s_nil))
  (s_one (s_par2 1 2 rfl sc_l_frames_in.nd (m_vl (d_bin op_addA addA_ok (d_var 1) (d_tup (a_cons (d_var 7) (a_nil)))) (m_vl (d_bin op_addA addA_ok (d_bin op_addA addA_ok (d_var 2) (d_int)) (d_var 6)) (m_nil))))))))))))
  (s_one (s_ret (d_tup (a_cons (d_var 1) (a_cons (d_var 2) (a_nil)))))))
def N_l_opened : List PySem.Str := ["log", "texts", "many", "at", "end"]
def P_l_opened : List PySem.Str := ["log"]
theorem sc_l_opened : FnScope N_l_opened P_l_opened (defScope (top 61)) := C8.fnScope_by (by decide +kernel)
def f_l_opened : En → Res Fl :=
  sSeq (sAs (dBin gIx (dCal 1 F_l_frames_in (dCons (dVar 0) (dNil))) (dC (.int 0))) (gN 1))
  (sSeq (sAs (dCall gMax (dCons (dBin gAdd (dFz (dLc [3] (dR1 (dCons (dCall gLen (dCons (dVar 1) (dNil))) (dNil))) (gN 3) (dBo (dBin gEq (dSl (dBin gIx (dVar 1) (dVar 3)) (dNP) (dPt (dC (.int 2)))) (dC (.str [100, 32])))) (dBin gAdd (dVar 3) (dC (.int 1))))) (dFz (dLst (dCons (dC (.int 0)) (dNil))))) (dNil))) (gN 2))
  (sSeq (sAs (dCall gLen (dCons (dCal 1 F_l_stream (dCons (dSl (dVar 1) (dNP) (dPt (dVar 2))) (dNil))) (dNil))) (gN 4))
  (sRet (dTup (dCons (dSl (dVar 1) (dNP) (dPt (dVar 2))) (dCons (dVar 4) (dCons (dIf (dBo (dBin gLt (dVar 4) (dCall gLen (dCons (dVar 0) (dNil))))) (dTup (dCons (dTup (dCons (dC (.str [99, 117, 116])) (dCons (dVar 4) (dNil)))) (dNil))) (dTup (dNil))) (dNil))))))))
def F_l_opened := dFun0 5 f_l_opened
theorem ok_l_opened (g : G K mg) (k_l_stream : DL.Cl P w K mg base 3 "_law_stream" (spD0 K 1 F_l_stream)) (k_l_frames_in : DL.Cl P w K mg base 2 "_law_frames_in" (spD0 K 1 F_l_frames_in)) (Fn : FnP K "_law_opened" (top 61) f fd) : FnOk P w K mg base CX0 4 f fd P_l_opened (spD0 K 1 F_l_opened) := fn_ok0 (C := cks) (k := 3) Fn sc_l_opened rfl fun cdv A outer s H E hr =>
  s_cons (s_set 1 (d_ix (d_cal k_l_frames_in hr (a_cons (d_var 0) (a_nil))) (d_int)) sc_l_opened.nd)
  (s_cons (s_set 2 (d_callB (call_maxA rfl) max_ok g.n_max (by decide +kernel) (a_cons (d_bin op_addA addA_ok (d_fz (f_lc rfl sc_l_opened.nd (i_range1 g.n_range (a_cons (d_callB call_len len_ok g.n_len (by decide +kernel) (a_cons (d_var 1) (a_nil))) (a_nil))) (blkOk_by (own := [("at", 3)]) (by kernel_rfl)) (tg_name) (fun _ h => h) (fun _ _ _ _ _ => pg_name sc_l_opened.nd rfl (by first | exact Or.inl rfl | exact Or.inr rfl)) (fun _ _ _ _ _ => ts_one (t_cmp (op_eqD hr.units) eqD_ok (d_sl (d_ix (d_var 1) (d_var 3)) (p_none) (p_some (d_int))) (d_str [100, 32] (by rfl) (by rfl)) rfl)) (fun _ _ _ _ _ => d_bin op_addA addA_ok (d_var 3) (d_int)))) (d_fz (f_lst (a_cons (d_int) (a_nil))))) (a_nil))) sc_l_opened.nd)
  (s_cons (s_set 4 (d_callB call_len len_ok g.n_len (by decide +kernel) (a_cons (d_cal k_l_stream hr (a_cons (d_sl (d_var 1) (p_none) (p_some (d_var 2))) (a_nil))) (a_nil))) sc_l_opened.nd)
  (s_one (s_ret (d_tup (a_cons (d_sl (d_var 1) (p_none) (p_some (d_var 2))) (a_cons (d_var 4) (a_cons (d_if (t_cmp op_lt lt_ok (d_var 4) (d_callB call_len len_ok g.n_len (by decide +kernel) (a_cons (d_var 0) (a_nil))) rfl) (d_tup (a_cons (d_tup (a_cons (d_str [99, 117, 116] (by rfl) (by rfl)) (a_cons (d_var 4) (a_nil)))) (a_nil))) (d_tup (a_nil))) (a_nil)))))))))
def N_l_right : List PySem.Str := ["well", "texts", "log", "ends", "at", "many", "end", "each", "due", "cut", "number", "write", "here", "ready", "more", "turn", "bent"]
def P_l_right : List PySem.Str := ["well", "texts"]
theorem sc_l_right : FnScope N_l_right P_l_right (defScope (top 63)) := C8.fnScope_by (by decide +kernel)
def f_l_right : En → Res Fl :=
  sSeq (sPar [2, 3] (mVl (dCal 1 F_l_stream (dCons (dVar 1) (dNil))) (mNw (dLst (dCons (dTup (dCons (dC (.int 0)) (dCons (dC (.int 0)) (dNil)))) (dNil))) (mNil))))
  (sSeq (sFor (dR1 (dCons (dCall gLen (dCons (dVar 1) (dNil))) (dNil))) (gN 4)
  (sIf (dBo (dBin gEq (dSl (dBin gIx (dVar 1) (dVar 4)) (dNP) (dPt (dC (.int 2)))) (dC (.str [100, 32])))) (sEx (dApp 3 (dTup (dCons (dBin gAdd (dVar 4) (dC (.int 1))) (dCons (dCall gLen (dCons (dCal 1 F_l_stream (dCons (dSl (dVar 1) (dNP) (dPt (dBin gAdd (dVar 4) (dC (.int 1))))) (dNil))) (dNil))) (dNil)))))) (sNx)))
  (sSeq (sFor (dR3 (dCons (dC (.int 0)) (dCons (dBin gAdd (dCall gLen (dCons (dVar 2) (dNil))) (dC (.int 1))) (dCons (dBin gAdd (dC (.int 1)) (dBin gDiv (dCall gLen (dCons (dVar 2) (dNil))) (dC (.int 25)))) (dNil))))) (gN 4)
  (sSeq (sAs (dBin gIx (dFz (dLc [7] (dIt (dVar 3)) (gN 7) (dBo (dBin gLe (dBin gIx (dVar 7) (dC (.int 1))) (dVar 4))) (dVar 7))) (dNeg (dC (.int 1)))) (gT (gsC (gN 5) (gsC (gN 6) (gs0)))))
  (sSeq (sAs (dTup (dCons (dSl (dVar 1) (dNP) (dPt (dVar 5))) (dCons (dVar 6) (dCons (dIf (dBo (dBin gLt (dVar 6) (dVar 4))) (dTup (dCons (dTup (dCons (dC (.str [99, 117, 116])) (dCons (dVar 6) (dNil)))) (dNil))) (dTup (dNil))) (dNil))))) (gN 8))
  (sSeq (sAs (dSl (dVar 2) (dNP) (dPt (dVar 4))) (gN 9))
  (sSeq (sIf (dNot (dTr (dCal 2 F_l_same (dCons (dCal 1 F_opened (dCons (dVar 9) (dNil))) (dCons (dVar 8) (dNil)))))) (sRet (dC (.bl false))) (sNx))
  (sIf (dBo (dBin gEq (dCal1 1 0 F_l_take (dCons (dC (.int 12)) (dNil))) (dC (.int 0)))) (sSeq (sFor (dIt (dFz (dLst (dCons (dC (.int 0)) (dCons (dC (.int 1)) (dNil)))))) (gN 10)
  (sFor (dIt (dBin gIx (dVar 8) (dC (.int 2)))) (gN 11)
  (sSeq (sAs (dCal 3 F_torn (dCons (dVar 9) (dCons (dVar 11) (dCons (dVar 10) (dNil))))) (gN 12))
  (sIf (dOr (dNot (dTr (dCal 2 F_l_same (dCons (dSl (dCal 1 F_opened (dCons (dVar 12) (dNil))) (dNP) (dPt (dC (.int 2)))) (dCons (dSl (dVar 8) (dNP) (dPt (dC (.int 2)))) (dNil)))))) (dAnd (dBo (dBin gEq (dVar 10) (dC (.int 1)))) (dBo (dBin gNe (dBin gIx (dCal 1 F_opened (dCons (dVar 12) (dNil))) (dC (.int 2))) (dTup (dNil)))))) (sRet (dC (.bl false))) (sNx)))))
  (sSeq (sAs (dCal 2 F_behind_writes (dCons (dVar 9) (dCons (dBin gIx (dVar 8) (dC (.int 2))) (dNil)))) (gN 13))
  (sSeq (sAs (dBin gAdd (dBin gAdd (dVar 13) (dCal 1 F_frame (dCons (dC (.str [109, 32, 116, 32, 48, 32, 48, 49])) (dNil)))) (dCal 1 F_frame (dCons (dC (.str [100, 32, 55, 32, 118, 111, 105, 100, 32, 117])) (dNil)))) (gN 14))
  (sIf (dOr (dNot (dTr (dCal 2 F_l_same (dCons (dCal 1 F_opened (dCons (dVar 14) (dNil))) (dCons (dTup (dCons (dBin gAdd (dSl (dVar 1) (dNP) (dPt (dVar 5))) (dTup (dCons (dC (.str [109, 32, 116, 32, 48, 32, 48, 49])) (dCons (dC (.str [100, 32, 55, 32, 118, 111, 105, 100, 32, 117])) (dNil))))) (dCons (dCall gLen (dCons (dVar 14) (dNil))) (dCons (dTup (dNil)) (dNil))))) (dNil)))))) (dBo (dBin gNe (dBin gIx (dCal 1 F_frames_in (dCons (dVar 13) (dNil))) (dC (.int 1))) (dCall gLen (dCons (dVar 13) (dNil)))))) (sRet (dC (.bl false))) (sNx))))) (sNx)))))))
  (sSeq (sFor (dR1 (dCons (dC (.int 10)) (dNil))) (gN 15)
  (sSeq (sAs (dCal1 1 0 F_l_take (dCons (dCall gMax (dCons (dC (.int 1)) (dCons (dCall gLen (dCons (dVar 2) (dNil))) (dNil)))) (dNil))) (gN 4))
  (sSeq (sAs (dBin gAdd (dBin gAdd (dBin gAdd (dSl (dVar 2) (dNP) (dPt (dVar 4))) (dCal1 1 0 F_l_pick (dCons (dC (.str [48, 49, 53, 32, 100, 122, 124])) (dNil)))) (dSl (dVar 2) (dPt (dBin gAdd (dVar 4) (dC (.int 1)))) (dNP))) (dCal1 1 0 F_l_pick (dCons (dFz (dLst (dCons (dC (.str [])) (dCons (dC (.str [48])) (dCons (dCal 1 F_l_frame (dCons (dC (.str [111, 32, 116, 32, 49])) (dNil))) (dCons (dBin gAdd (dCal 1 F_l_frame (dCons (dC (.str [100])) (dNil))) (dCal 1 F_l_frame (dCons (dC (.str [100, 32, 49, 32, 120])) (dNil)))) (dNil))))))) (dNil)))) (gN 16))
  (sIf (dNot (dTr (dCal 2 F_l_same (dCons (dFz (dLst (dCons (dCal 1 F_opened (dCons (dVar 16) (dNil))) (dCons (dCal 1 F_opened (dLens 0 1 dNil (dCons (dVar 16) (dNil)))) (dNil))))) (dCons (dBin gMul (dFz (dLst (dCons (dCal 1 F_l_opened (dCons (dVar 16) (dNil))) (dNil)))) (dC (.int 2))) (dNil)))))) (sRet (dC (.bl false))) (sNx)))))
  (sRet (dC (.bl true))))))
def F_l_right := dFun1 17 f_l_right
theorem ok_l_right (g : G K mg) (k_l_same : DL.Cl P w K mg base 5 "_law_same" (spD0 K 2 F_l_same)) (k_l_opened : DL.Cl P w K mg base 4 "_law_opened" (spD0 K 1 F_l_opened)) (k_opened : DL.Cl P w K mg base 6 "opened" (spD0 K 1 F_opened)) (k_l_pick : DL.Cl P w K mg base 2 "_law_pick" (spD1 K 1 F_l_pick)) (k_l_frame : DL.Cl P w K mg base 2 "_law_frame" (spD0 K 1 F_l_frame)) (k_l_take : DL.Cl P w K mg base 1 "_law_take" (spD1 K 1 F_l_take)) (k_frames_in : DL.Cl P w K mg base 4 "frames_in" (spD0 K 1 F_frames_in)) (k_frame : DL.Cl P w K mg base 4 "frame" (spD0 K 1 F_frame)) (k_behind_writes : DL.Cl P w K mg base 5 "behind_writes" (spD0 K 2 F_behind_writes)) (k_torn : DL.Cl P w K mg base 5 "torn" (spD0 K 3 F_torn)) (k_l_stream : DL.Cl P w K mg base 3 "_law_stream" (spD0 K 1 F_l_stream)) (kk_opened_0 : DL.ClK P w K mg base 6 "opened" (spD0 K 1 F_opened) 0 ["log"]) (Fn : FnP K "_law_right" (top 63) f fd) : FnOk P w K mg base CX0 7 f fd P_l_right (spD1 K 1 F_l_right) := fn_ok1 (C := cks) (k := 6) Fn sc_l_right rfl fun cdv A outer s H E hr =>
  s_cons (s_par2 2 3 rfl sc_l_right.nd (m_vl (d_cal k_l_stream hr (a_cons (d_var 1) (a_nil))) (m_nw (f_lst (a_cons (d_tup (a_cons (d_int) (a_cons (d_int) (a_nil)))) (a_nil))) (m_nil))))
  (s_cons (s_for PassesOwn.never rfl (i_range1 g.n_range (a_cons (d_callB call_len len_ok g.n_len (by decide +kernel) (a_cons (d_var 1) (a_nil))) (a_nil))) (pg_name sc_l_right.nd rfl (by first | exact Or.inl rfl | exact Or.inr rfl)) (tg_name)
  (s_one (s_if (t_cmp (op_eqD hr.units) eqD_ok (d_sl (d_ix (d_var 1) (d_var 4)) (p_none) (p_some (d_int))) (d_str [100, 32] (by rfl) (by rfl)) rfl) (s_one (s_expr (d_app 3 (d_tup (a_cons (d_bin op_addA addA_ok (d_var 4) (d_int)) (a_cons (d_callB call_len len_ok g.n_len (by decide +kernel) (a_cons (d_cal k_l_stream hr (a_cons (d_sl (d_var 1) (p_none) (p_some (d_bin op_addA addA_ok (d_var 4) (d_int)))) (a_nil))) (a_nil))) (a_nil))))))) (s_nil))))
  (s_cons (s_for PassesOwn.never rfl (i_range3 g.n_range (a_cons (d_int) (a_cons (d_bin op_addA addA_ok (d_callB call_len len_ok g.n_len (by decide +kernel) (a_cons (d_var 2) (a_nil))) (d_int)) (a_cons (d_bin op_addA addA_ok (d_int) (d_bin op_fdiv div_ok (d_callB call_len len_ok g.n_len (by decide +kernel) (a_cons (d_var 2) (a_nil))) (d_int))) (a_nil))))) (pg_name sc_l_right.nd rfl (by first | exact Or.inl rfl | exact Or.inr rfl)) (tg_name)
  (s_cons (s_asgS (d_ix (d_fz (f_lc rfl sc_l_right.nd (i_val (d_var 3)) (blkOk_by (own := [("each", 7)]) (by kernel_rfl)) (tg_name) (fun _ h => h) (fun _ _ _ _ _ => pg_name sc_l_right.nd rfl (by first | exact Or.inl rfl | exact Or.inr rfl)) (fun _ _ _ _ _ => ts_one (t_cmp op_le le_ok (d_ix (d_var 7) (d_int)) (d_var 4) rfl)) (fun _ _ _ _ _ => d_var 7))) (d_neg (d_int))) (pg_tup rfl (pgs_cons (pg_name sc_l_right.nd rfl (by first | exact Or.inl rfl | exact Or.inr rfl)) (pgs_cons (pg_name sc_l_right.nd rfl (by first | exact Or.inl rfl | exact Or.inr rfl)) (pgs_nil)))) (ts_tup (tss_cons (TgD.s (tg_name)) (tss_cons (TgD.s (tg_name)) (tss_nil))) (gsC_len (gsC_len (gs0_len)))))
  (s_cons (s_set 8 (d_tup (a_cons (d_sl (d_var 1) (p_none) (p_some (d_var 5))) (a_cons (d_var 6) (a_cons (d_if (t_cmp op_lt lt_ok (d_var 6) (d_var 4) rfl) (d_tup (a_cons (d_tup (a_cons (d_str [99, 117, 116] (by rfl) (by rfl)) (a_cons (d_var 6) (a_nil)))) (a_nil))) (d_tup (a_nil))) (a_nil))))) sc_l_right.nd)
  (s_cons (s_set 9 (d_sl (d_var 2) (p_none) (p_some (d_var 4))) sc_l_right.nd)
  (s_cons (s_if (t_not (t_val (d_cal k_l_same hr (a_cons (d_cal k_opened hr (a_cons (d_var 9) (a_nil))) (a_cons (d_var 8) (a_nil)))))) (s_one (s_ret (d_bl))) (s_nil))
  (s_one (s_if (t_cmp (op_eqD hr.units) eqD_ok (d_cal1 0 k_l_take hr (a_cons (d_int) (a_nil))) (d_int) rfl) (s_cons (s_for PassesOwn.never rfl (i_val (d_fz (f_lst (a_cons (d_int) (a_cons (d_int) (a_nil)))))) (pg_name sc_l_right.nd rfl (by first | exact Or.inl rfl | exact Or.inr rfl)) (tg_name)
  (s_one (s_for PassesOwn.never rfl (i_val (d_ix (d_var 8) (d_int))) (pg_name sc_l_right.nd rfl (by first | exact Or.inl rfl | exact Or.inr rfl)) (tg_name)
  (s_cons (s_set 12 (d_cal k_torn hr (a_cons (d_var 9) (a_cons (d_var 11) (a_cons (d_var 10) (a_nil))))) sc_l_right.nd)
  (s_one (s_if (t_w (w_or (t_not (t_val (d_cal k_l_same hr (a_cons (d_sl (d_cal k_opened hr (a_cons (d_var 12) (a_nil))) (p_none) (p_some (d_int))) (a_cons (d_sl (d_var 8) (p_none) (p_some (d_int))) (a_nil)))))) (w_or1 (t_w (w_and (t_cmp (op_eqD hr.units) eqD_ok (d_var 10) (d_int) rfl) (w_and1 (t_cmp (op_neD hr.units) neD_ok (d_ix (d_cal k_opened hr (a_cons (d_var 12) (a_nil))) (d_int)) (d_tup (a_nil)) rfl))))))) (s_one (s_ret (d_bl))) (s_nil)))))))
  (s_cons (s_set 13 (d_cal k_behind_writes hr (a_cons (d_var 9) (a_cons (d_ix (d_var 8) (d_int)) (a_nil)))) sc_l_right.nd)
  (s_cons (s_set 14 (d_bin op_addA addA_ok (d_bin op_addA addA_ok (d_var 13) (d_cal k_frame hr (a_cons (d_str [109, 32, 116, 32, 48, 32, 48, 49] (by rfl) (by rfl)) (a_nil)))) (d_cal k_frame hr (a_cons (d_str [100, 32, 55, 32, 118, 111, 105, 100, 32, 117] (by rfl) (by rfl)) (a_nil)))) sc_l_right.nd)
  (s_one (s_if (t_w (w_or (t_not (t_val (d_cal k_l_same hr (a_cons (d_cal k_opened hr (a_cons (d_var 14) (a_nil))) (a_cons (d_tup (a_cons (d_bin op_addA addA_ok (d_sl (d_var 1) (p_none) (p_some (d_var 5))) (d_tup (a_cons (d_str [109, 32, 116, 32, 48, 32, 48, 49] (by rfl) (by rfl)) (a_cons (d_str [100, 32, 55, 32, 118, 111, 105, 100, 32, 117] (by rfl) (by rfl)) (a_nil))))) (a_cons (d_callB call_len len_ok g.n_len (by decide +kernel) (a_cons (d_var 14) (a_nil))) (a_cons (d_tup (a_nil)) (a_nil))))) (a_nil)))))) (w_or1 (t_cmp (op_neD hr.units) neD_ok (d_ix (d_cal k_frames_in hr (a_cons (d_var 13) (a_nil))) (d_int)) (d_callB call_len len_ok g.n_len (by decide +kernel) (a_cons (d_var 13) (a_nil))) rfl)))) (s_one (s_ret (d_bl))) (s_nil)))))) (s_nil))))))))
  (s_cons (s_for PassesOwn.never rfl (i_range1 g.n_range (a_cons (d_int) (a_nil))) (pg_name sc_l_right.nd rfl (by first | exact Or.inl rfl | exact Or.inr rfl)) (tg_name)
  (s_cons (s_set 4 (d_cal1 0 k_l_take hr (a_cons (d_callB (call_maxA rfl) max_ok g.n_max (by decide +kernel) (a_cons (d_int) (a_cons (d_callB call_len len_ok g.n_len (by decide +kernel) (a_cons (d_var 2) (a_nil))) (a_nil)))) (a_nil))) sc_l_right.nd)
  (s_cons (s_set 16 (d_bin op_addA addA_ok (d_bin op_addA addA_ok (d_bin op_addA addA_ok (d_sl (d_var 2) (p_none) (p_some (d_var 4))) (d_cal1 0 k_l_pick hr (a_cons (d_str [48, 49, 53, 32, 100, 122, 124] (by rfl) (by rfl)) (a_nil)))) (d_sl (d_var 2) (p_some (d_bin op_addA addA_ok (d_var 4) (d_int))) (p_none))) (d_cal1 0 k_l_pick hr (a_cons (d_fz (f_lst (a_cons (d_str [] (by rfl) (by rfl)) (a_cons (d_str [48] (by rfl) (by rfl)) (a_cons (d_cal k_l_frame hr (a_cons (d_str [111, 32, 116, 32, 49] (by rfl) (by rfl)) (a_nil))) (a_cons (d_bin op_addA addA_ok (d_cal k_l_frame hr (a_cons (d_str [100] (by rfl) (by rfl)) (a_nil))) (d_cal k_l_frame hr (a_cons (d_str [100, 32, 49, 32, 120] (by rfl) (by rfl)) (a_nil)))) (a_nil))))))) (a_nil)))) sc_l_right.nd)
  (s_one (s_if (t_not (t_val (d_cal k_l_same hr (a_cons (d_fz (f_lst (a_cons (d_cal k_opened hr (a_cons (d_var 16) (a_nil))) (a_cons (d_calK0 kk_opened_0 hr (k_cons (d_var 16) (k_nil))) (a_nil))))) (a_cons (d_bin op_mulA mulA_ok (d_fz (f_lst (a_cons (d_cal k_l_opened hr (a_cons (d_var 16) (a_nil))) (a_nil)))) (d_int)) (a_nil)))))) (s_one (s_ret (d_bl))) (s_nil))))))
  (s_one (s_ret (d_bl))))))
def N_law : List PySem.Str := ["script", "turn", "well", "many", "texts", "at"]
def P_law : List PySem.Str := ["script"]
theorem sc_law : FnScope N_law P_law (defScope (top 64)) := C8.fnScope_by (by decide +kernel)
def f_law : En → Res Fl :=
  sSeq (sFor (dR1 (dCons (dCall gMax (dCons (dC (.int 2)) (dCons (dCall gMin (dCons (dCall gLen (dCons (dVar 0) (dNil))) (dCons (dC (.int 4)) (dNil)))) (dNil)))) (dNil))) (gN 1)
  (sSeq (sAsO (dCalF 2 F_l_well (dCons (dVar 0) (dCons (dVar 1) (dNil)))) 2)
  (sFor (dIt (dFz (dLst (dCons (dC (.int 0)) (dCons (dC (.int 1)) (dCons (dC (.int 3)) (dCons (dC (.int 6)) (dNil)))))))) (gN 3)
  (sSeq (sAs (dCall gTuple (dCons (dFz (dLc [5] (dR1 (dCons (dVar 3) (dNil))) (gN 5) (dYes) (dCal1 1 2 F_l_text (dCons (dC (.int 25)) (dNil))))) (dNil))) (gN 4))
  (sIf (dOr (dNot (dTr (dCal1 1 2 F_l_right (dCons (dVar 4) (dNil))))) (dNot (dTr (dCal1 1 2 F_l_right (dCons (dBin gAdd (dVar 4) (dTup (dCons (dC (.str [100, 32, 49, 32, 118, 111, 105, 100, 32, 116])) (dCons (dC (.str [103, 32, 116, 32, 48])) (dCons (dC (.str [100, 32, 50])) (dNil)))))) (dNil)))))) (sRet (dC (.bl false))) (sNx))))))
  (sRet (dC (.bl true)))
def F_law := dFun0 6 f_law
theorem ok_law (g : G K mg) (k_l_right : DL.Cl P w K mg base 7 "_law_right" (spD1 K 1 F_l_right)) (k_l_text : DL.Cl P w K mg base 3 "_law_text" (spD1 K 1 F_l_text)) (k_l_well : DL.Cl P w K mg base 1 "_law_well" (spD0 K 2 F_l_well)) (Fn : FnP K "law" (top 64) f fd) : FnOk P w K mg base CX0 8 f fd P_law (spD0 K 1 F_law) := fn_ok0 (C := cks) (k := 7) Fn sc_law rfl fun cdv A outer s H E hr =>
  s_cons (s_for PassesOwn.never rfl (i_range1 g.n_range (a_cons (d_callB (call_maxA rfl) max_ok g.n_max (by decide +kernel) (a_cons (d_int) (a_cons (d_callB (call_minA rfl) min_ok g.n_min (by decide +kernel) (a_cons (d_callB call_len len_ok g.n_len (by decide +kernel) (a_cons (d_var 0) (a_nil))) (a_cons (d_int) (a_nil)))) (a_nil)))) (a_nil))) (pg_name sc_law.nd rfl (by first | exact Or.inl rfl | exact Or.inr rfl)) (tg_name)
  (s_cons (s_setO 2 (f_cal k_l_well hr (a_cons (d_var 0) (a_cons (d_var 1) (a_nil)))) sc_law.nd)
  (s_one (s_for PassesOwn.never rfl (i_val (d_fz (f_lst (a_cons (d_int) (a_cons (d_int) (a_cons (d_int) (a_cons (d_int) (a_nil)))))))) (pg_name sc_law.nd rfl (by first | exact Or.inl rfl | exact Or.inr rfl)) (tg_name)
  (s_cons (s_set 4 (d_callT call_tuple_of tuple_ok g.n_tuple (by decide +kernel) (a_cons (d_fz (f_lc rfl sc_law.nd (i_range1 g.n_range (a_cons (d_var 3) (a_nil))) (blkOk_by (own := [("at", 5)]) (by kernel_rfl)) (tg_name) (fun _ h => h) (fun _ _ _ _ _ => pg_name sc_law.nd rfl (by first | exact Or.inl rfl | exact Or.inr rfl)) (fun _ _ _ _ _ => ts_nil) (fun _ _ _ _ _ => d_cal1 2 k_l_text hr (a_cons (d_int) (a_nil))))) (a_nil))) sc_law.nd)
  (s_one (s_if (t_w (w_or (t_not (t_val (d_cal1 2 k_l_right hr (a_cons (d_var 4) (a_nil))))) (w_or1 (t_not (t_val (d_cal1 2 k_l_right hr (a_cons (d_bin op_addA addA_ok (d_var 4) (d_tup (a_cons (d_str [100, 32, 49, 32, 118, 111, 105, 100, 32, 116] (by rfl) (by rfl)) (a_cons (d_str [103, 32, 116, 32, 48] (by rfl) (by rfl)) (a_cons (d_str [100, 32, 50] (by rfl) (by rfl)) (a_nil)))))) (a_nil)))))))) (s_one (s_ret (d_bl))) (s_nil))))))))
  (s_one (s_ret (d_bl)))
end
def d_is_whole : He.DefD := ⟨("is_whole", none), "is_whole", "is_whole", defArgs (top 6), defBody (top 6), defScope (top 6), [], []⟩
def d_is_between : He.DefD := ⟨("is_between", none), "is_between", "is_between", defArgs (top 7), defBody (top 7), defScope (top 7), [], []⟩
def d_is_tuple_of : He.DefD := ⟨("is_tuple_of", none), "is_tuple_of", "is_tuple_of", defArgs (top 8), defBody (top 8), defScope (top 8), [], []⟩
def d_is_text_of : He.DefD := ⟨("is_text_of", none), "is_text_of", "is_text_of", defArgs (top 9), defBody (top 9), defScope (top 9), [], []⟩
def d_is_signed : He.DefD := ⟨("is_signed", none), "is_signed", "is_signed", defArgs (top 13), defBody (top 13), defScope (top 13), [], []⟩
def d_check_text : He.DefD := ⟨("check_text", none), "check_text", "check_text", defArgs (top 15), defBody (top 15), defScope (top 15), [], []⟩
def d_check_signs : He.DefD := ⟨("check_signs", none), "check_signs", "check_signs", defArgs (top 16), defBody (top 16), defScope (top 16), [], []⟩
def d_is_write_of : He.DefD := ⟨("is_write_of", none), "is_write_of", "is_write_of", defArgs (top 21), defBody (top 21), defScope (top 21), [], []⟩
def d_signs_of : He.DefD := ⟨("signs_of", none), "signs_of", "signs_of", defArgs (top 22), defBody (top 22), defScope (top 22), [], []⟩
def d_check_of : He.DefD := ⟨("check_of", none), "check_of", "check_of", defArgs (top 28), defBody (top 28), defScope (top 28), [], []⟩
def d_frame_of : He.DefD := ⟨("frame_of", none), "frame_of", "frame_of", defArgs (top 29), defBody (top 29), defScope (top 29), [], []⟩
def d_text_at : He.DefD := ⟨("text_at", none), "text_at", "text_at", defArgs (top 30), defBody (top 30), defScope (top 30), [], []⟩
def d_frames_by : He.DefD := ⟨("frames_by", none), "frames_by", "frames_by", defArgs (top 31), defBody (top 31), defScope (top 31), [], []⟩
def d_torn_by : He.DefD := ⟨("torn_by", none), "torn_by", "torn_by", defArgs (top 35), defBody (top 35), defScope (top 35), [], []⟩
def d_written_by : He.DefD := ⟨("written_by", none), "written_by", "written_by", defArgs (top 36), defBody (top 36), defScope (top 36), [], []⟩
def d_whole_notes : He.DefD := ⟨("whole_notes", none), "whole_notes", "whole_notes", defArgs (top 37), defBody (top 37), defScope (top 37), [], []⟩
def d_end_of : He.DefD := ⟨("end_of", none), "end_of", "end_of", defArgs (top 38), defBody (top 38), defScope (top 38), [], []⟩
def d_cut_writes : He.DefD := ⟨("cut_writes", none), "cut_writes", "cut_writes", defArgs (top 39), defBody (top 39), defScope (top 39), [], []⟩
def d_opened_by : He.DefD := ⟨("opened_by", none), "opened_by", "opened_by", defArgs (top 40), defBody (top 40), defScope (top 40), [], []⟩
def d_check_write : He.DefD := ⟨("check_write", none), "check_write", "check_write", defArgs (top 42), defBody (top 42), defScope (top 42), [], []⟩
def d_check_between : He.DefD := ⟨("check_between", none), "check_between", "check_between", defArgs (top 43), defBody (top 43), defScope (top 43), [], []⟩
def d_torn : He.DefD := ⟨("torn", none), "torn", "torn", defArgs (top 44), defBody (top 44), defScope (top 44), [], []⟩
def d_behind_writes : He.DefD := ⟨("behind_writes", none), "behind_writes", "behind_writes", defArgs (top 45), defBody (top 45), defScope (top 45), [], []⟩
def d_opened : He.DefD := ⟨("opened", none), "opened", "opened", defArgs (top 46), defBody (top 46), defScope (top 46), [], []⟩
def d_frame : He.DefD := ⟨("frame", none), "frame", "frame", defArgs (top 49), defBody (top 49), defScope (top 49), [], []⟩
def d_frames_in : He.DefD := ⟨("frames_in", none), "frames_in", "frames_in", defArgs (top 50), defBody (top 50), defScope (top 50), [], []⟩
def d_l_well : He.DefD := ⟨("_law_well", none), "_law_well", "_law_well", defArgs (top 52), defBody (top 52), defScope (top 52), [], []⟩
def d_l_take : He.DefD := ⟨("_law_take", none), "_law_take", "_law_take", defArgs (top 53), defBody (top 53), defScope (top 53), [], []⟩
def d_l_pick : He.DefD := ⟨("_law_pick", none), "_law_pick", "_law_pick", defArgs (top 54), defBody (top 54), defScope (top 54), [], []⟩
def d_l_same : He.DefD := ⟨("_law_same", none), "_law_same", "_law_same", defArgs (top 55), defBody (top 55), defScope (top 55), [], []⟩
def d_l_check : He.DefD := ⟨("_law_check", none), "_law_check", "_law_check", defArgs (top 56), defBody (top 56), defScope (top 56), [], []⟩
def d_l_digits : He.DefD := ⟨("_law_digits", none), "_law_digits", "_law_digits", defArgs (top 57), defBody (top 57), defScope (top 57), [], []⟩
def d_l_frame : He.DefD := ⟨("_law_frame", none), "_law_frame", "_law_frame", defArgs (top 58), defBody (top 58), defScope (top 58), [], []⟩
def d_l_stream : He.DefD := ⟨("_law_stream", none), "_law_stream", "_law_stream", defArgs (top 59), defBody (top 59), defScope (top 59), [], []⟩
def d_l_frames_in : He.DefD := ⟨("_law_frames_in", none), "_law_frames_in", "_law_frames_in", defArgs (top 60), defBody (top 60), defScope (top 60), [], []⟩
def d_l_opened : He.DefD := ⟨("_law_opened", none), "_law_opened", "_law_opened", defArgs (top 61), defBody (top 61), defScope (top 61), [], []⟩
def d_l_text : He.DefD := ⟨("_law_text", none), "_law_text", "_law_text", defArgs (top 62), defBody (top 62), defScope (top 62), [], []⟩
def d_l_right : He.DefD := ⟨("_law_right", none), "_law_right", "_law_right", defArgs (top 63), defBody (top 63), defScope (top 63), [], []⟩
def d_law : He.DefD := ⟨("law", none), "law", "law", defArgs (top 64), defBody (top 64), defScope (top 64), [], []⟩
def fn : List He.DefD := ([d_is_whole, d_is_between, d_is_tuple_of, d_is_text_of, d_is_signed, d_check_text, d_check_signs, d_is_write_of, d_signs_of, d_check_of, d_frame_of, d_text_at, d_frames_by, d_torn_by, d_written_by, d_whole_notes, d_end_of, d_cut_writes, d_opened_by, d_check_write, d_check_between, d_torn, d_behind_writes, d_opened, d_frame, d_frames_in, d_l_well, d_l_take, d_l_pick, d_l_same] : List He.DefD) ++ ([d_l_check, d_l_digits, d_l_frame, d_l_stream, d_l_frames_in, d_l_opened, d_l_text, d_l_right, d_law] : List He.DefD)
def fa : List He.Fa := ([.glo "is_whole", .glo "is_between", .glo "is_tuple_of", .glo "is_text_of", .glo "is_signed", .glo "check_text", .glo "check_signs", .glo "is_write_of", .glo "signs_of", .glo "check_of", .glo "frame_of", .glo "text_at", .glo "frames_by", .glo "torn_by", .glo "written_by", .glo "whole_notes", .glo "end_of", .glo "cut_writes", .glo "opened_by", .glo "check_write", .glo "check_between", .glo "torn", .glo "behind_writes", .glo "opened", .glo "frame", .glo "frames_in", .glo "_law_well", .glo "_law_take", .glo "_law_pick", .glo "_law_same"] : List He.Fa) ++ ([.glo "_law_check", .glo "_law_digits", .glo "_law_frame", .glo "_law_stream", .glo "_law_frames_in", .glo "_law_opened", .glo "_law_text", .glo "_law_right", .glo "law", .free "ValueError", .free "abs", .free "all", .free "bool", .free "divmod", .free "enumerate", .free "int", .free "isinstance", .free "len", .free "list", .free "max", .free "min", .free "range", .free "str", .free "sum", .free "tuple", .str "DIGITS" "0123456789", .str "SIGNS" " (),-./0123456789<=>|abcdefghijklmnopqrstuvwxyz", .str "ADD" "add", .str "CUT" "cut", .int "LONGEST_WRITE" 9999] : List He.Fa) ++ ([.int "MODULUS" 997, .int "LENGTH_DIGITS" 4, .int "CHECK_DIGITS" 3, .int "HEAD" 7, .str "OF_END" "d", .str "BLANK" " ", .int "LONGEST_FRAMED" 999, .keep "StripError", .keep "InvalidText", .keep "InvalidNumber", .keep "InvalidWrite"] : List He.Fa)
def names : List PySem.Str := (["is_whole", "is_between", "is_tuple_of", "is_text_of", "is_signed", "check_text", "check_signs", "is_write_of", "signs_of", "check_of", "frame_of", "text_at", "frames_by", "torn_by", "written_by", "whole_notes", "end_of", "cut_writes", "opened_by", "check_write", "check_between", "torn", "behind_writes", "opened", "frame", "frames_in", "_law_well", "_law_take", "_law_pick", "_law_same"] : List PySem.Str) ++ (["_law_check", "_law_digits", "_law_frame", "_law_stream", "_law_frames_in", "_law_opened", "_law_text", "_law_right", "StripError", "InvalidText", "InvalidNumber", "InvalidWrite", "DIGITS", "SIGNS", "ADD", "CUT", "LONGEST_WRITE", "MODULUS", "LENGTH_DIGITS", "CHECK_DIGITS", "HEAD", "OF_END", "BLANK", "LONGEST_FRAMED"] : List PySem.Str)
abbrev R : PySem.W.OpenRow := PySem.W.OpenLaw.row PySem.Challenge.rw_tallstrips_k45_opening_cut_anywhere
abbrev hk : PySem.W.Hook := He.hookD 5 fa fn
def ob (s : PySem.W.SharedT) : He.AlD := He.obsDG 5 fa fn (HandSHeadRun.getT s)
theorem ob_eq (s : PySem.W.SharedT) : ob s = hk.obs s.abs := He.obsDG_eq (HandSHeadRun.getT_eq s)
theorem run (w : World) : HandSHeadRun.RunEq R (PySem.W.view R.prog [64]) hk ob 3000 names w := by
  intro os
  kernel_rfl
theorem facts {P : Program} {w : World} {K : PySem.W.Frag} {h : Heap} {mg : Str → Option Value} {f : Addr} (X : K.In h) (Gn : h.Ns mainGlobals mg) (hfa : mg ("law" : Str) = some (.ref f)) (c : He.SaysD fa fn K) :
    ∃ fd : FuncData, (∀ (s : Shared) (v : Value), BindsTo s fd ⟨[v], []⟩ [("script", v)]) ∧ ∀ base : Heap, K.In base → base.Ns mainGlobals mg → FnOk P w K mg base CX0 8 f fd ["script"] (spD0 K 1 F_law) := by
  obtain ⟨fd_l_well, Fn_l_well⟩ := c.def_ 26 (d := d_l_well) rfl
  obtain ⟨fd_l_take, Fn_l_take⟩ := c.def_ 27 (d := d_l_take) rfl
  obtain ⟨fd_l_pick, Fn_l_pick⟩ := c.def_ 28 (d := d_l_pick) rfl
  obtain ⟨fd_l_text, Fn_l_text⟩ := c.def_ 36 (d := d_l_text) rfl
  obtain ⟨fd_l_digits, Fn_l_digits⟩ := c.def_ 31 (d := d_l_digits) rfl
  obtain ⟨fd_l_check, Fn_l_check⟩ := c.def_ 30 (d := d_l_check) rfl
  obtain ⟨fd_l_frame, Fn_l_frame⟩ := c.def_ 32 (d := d_l_frame) rfl
  obtain ⟨fd_l_stream, Fn_l_stream⟩ := c.def_ 33 (d := d_l_stream) rfl
  obtain ⟨fd_l_same, Fn_l_same⟩ := c.def_ 29 (d := d_l_same) rfl
  obtain ⟨fd_is_text_of, Fn_is_text_of⟩ := c.def_ 3 (d := d_is_text_of) rfl
  obtain ⟨fd_is_signed, Fn_is_signed⟩ := c.def_ 4 (d := d_is_signed) rfl
  obtain ⟨fd_check_signs, Fn_check_signs⟩ := c.def_ 6 (d := d_check_signs) rfl
  obtain ⟨fd_is_tuple_of, Fn_is_tuple_of⟩ := c.def_ 2 (d := d_is_tuple_of) rfl
  obtain ⟨fd_is_whole, Fn_is_whole⟩ := c.def_ 0 (d := d_is_whole) rfl
  obtain ⟨fd_is_between, Fn_is_between⟩ := c.def_ 1 (d := d_is_between) rfl
  obtain ⟨fd_is_write_of, Fn_is_write_of⟩ := c.def_ 7 (d := d_is_write_of) rfl
  obtain ⟨fd_check_write, Fn_check_write⟩ := c.def_ 19 (d := d_check_write) rfl
  obtain ⟨fd_torn_by, Fn_torn_by⟩ := c.def_ 13 (d := d_torn_by) rfl
  obtain ⟨fd_signs_of, Fn_signs_of⟩ := c.def_ 8 (d := d_signs_of) rfl
  obtain ⟨fd_written_by, Fn_written_by⟩ := c.def_ 14 (d := d_written_by) rfl
  obtain ⟨fd_behind_writes, Fn_behind_writes⟩ := c.def_ 22 (d := d_behind_writes) rfl
  obtain ⟨fd_check_of, Fn_check_of⟩ := c.def_ 9 (d := d_check_of) rfl
  obtain ⟨fd_text_at, Fn_text_at⟩ := c.def_ 11 (d := d_text_at) rfl
  obtain ⟨fd_frames_by, Fn_frames_by⟩ := c.def_ 12 (d := d_frames_by) rfl
  obtain ⟨fd_whole_notes, Fn_whole_notes⟩ := c.def_ 15 (d := d_whole_notes) rfl
  obtain ⟨fd_end_of, Fn_end_of⟩ := c.def_ 16 (d := d_end_of) rfl
  obtain ⟨fd_cut_writes, Fn_cut_writes⟩ := c.def_ 17 (d := d_cut_writes) rfl
  obtain ⟨fd_opened_by, Fn_opened_by⟩ := c.def_ 18 (d := d_opened_by) rfl
  obtain ⟨fd_opened, Fn_opened⟩ := c.def_ 23 (d := d_opened) rfl
  obtain ⟨fd_frame_of, Fn_frame_of⟩ := c.def_ 10 (d := d_frame_of) rfl
  obtain ⟨fd_frame, Fn_frame⟩ := c.def_ 24 (d := d_frame) rfl
  obtain ⟨fd_check_between, Fn_check_between⟩ := c.def_ 20 (d := d_check_between) rfl
  obtain ⟨fd_torn, Fn_torn⟩ := c.def_ 21 (d := d_torn) rfl
  obtain ⟨fd_check_text, Fn_check_text⟩ := c.def_ 5 (d := d_check_text) rfl
  obtain ⟨fd_frames_in, Fn_frames_in⟩ := c.def_ 25 (d := d_frames_in) rfl
  obtain ⟨fd_l_frames_in, Fn_l_frames_in⟩ := c.def_ 34 (d := d_l_frames_in) rfl
  obtain ⟨fd_l_opened, Fn_l_opened⟩ := c.def_ 35 (d := d_l_opened) rfl
  obtain ⟨fd_l_right, Fn_l_right⟩ := c.def_ 37 (d := d_l_right) rfl
  obtain ⟨fd_law, Fn_law⟩ := c.def_ 38 (d := d_law) rfl
  have m_l_well := He.glo_ok X Gn (c.fact 26 (f := .glo "_law_well") rfl)
  have m_l_take := He.glo_ok X Gn (c.fact 27 (f := .glo "_law_take") rfl)
  have m_l_pick := He.glo_ok X Gn (c.fact 28 (f := .glo "_law_pick") rfl)
  have m_l_text := He.glo_ok X Gn (c.fact 36 (f := .glo "_law_text") rfl)
  have m_l_digits := He.glo_ok X Gn (c.fact 31 (f := .glo "_law_digits") rfl)
  have m_l_check := He.glo_ok X Gn (c.fact 30 (f := .glo "_law_check") rfl)
  have m_l_frame := He.glo_ok X Gn (c.fact 32 (f := .glo "_law_frame") rfl)
  have m_l_stream := He.glo_ok X Gn (c.fact 33 (f := .glo "_law_stream") rfl)
  have m_l_same := He.glo_ok X Gn (c.fact 29 (f := .glo "_law_same") rfl)
  have m_is_text_of := He.glo_ok X Gn (c.fact 3 (f := .glo "is_text_of") rfl)
  have m_is_signed := He.glo_ok X Gn (c.fact 4 (f := .glo "is_signed") rfl)
  have m_check_signs := He.glo_ok X Gn (c.fact 6 (f := .glo "check_signs") rfl)
  have m_is_tuple_of := He.glo_ok X Gn (c.fact 2 (f := .glo "is_tuple_of") rfl)
  have m_is_whole := He.glo_ok X Gn (c.fact 0 (f := .glo "is_whole") rfl)
  have m_is_between := He.glo_ok X Gn (c.fact 1 (f := .glo "is_between") rfl)
  have m_is_write_of := He.glo_ok X Gn (c.fact 7 (f := .glo "is_write_of") rfl)
  have m_check_write := He.glo_ok X Gn (c.fact 19 (f := .glo "check_write") rfl)
  have m_torn_by := He.glo_ok X Gn (c.fact 13 (f := .glo "torn_by") rfl)
  have m_signs_of := He.glo_ok X Gn (c.fact 8 (f := .glo "signs_of") rfl)
  have m_written_by := He.glo_ok X Gn (c.fact 14 (f := .glo "written_by") rfl)
  have m_behind_writes := He.glo_ok X Gn (c.fact 22 (f := .glo "behind_writes") rfl)
  have m_check_of := He.glo_ok X Gn (c.fact 9 (f := .glo "check_of") rfl)
  have m_text_at := He.glo_ok X Gn (c.fact 11 (f := .glo "text_at") rfl)
  have m_frames_by := He.glo_ok X Gn (c.fact 12 (f := .glo "frames_by") rfl)
  have m_whole_notes := He.glo_ok X Gn (c.fact 15 (f := .glo "whole_notes") rfl)
  have m_end_of := He.glo_ok X Gn (c.fact 16 (f := .glo "end_of") rfl)
  have m_cut_writes := He.glo_ok X Gn (c.fact 17 (f := .glo "cut_writes") rfl)
  have m_opened_by := He.glo_ok X Gn (c.fact 18 (f := .glo "opened_by") rfl)
  have m_opened := He.glo_ok X Gn (c.fact 23 (f := .glo "opened") rfl)
  have m_frame_of := He.glo_ok X Gn (c.fact 10 (f := .glo "frame_of") rfl)
  have m_frame := He.glo_ok X Gn (c.fact 24 (f := .glo "frame") rfl)
  have m_check_between := He.glo_ok X Gn (c.fact 20 (f := .glo "check_between") rfl)
  have m_torn := He.glo_ok X Gn (c.fact 21 (f := .glo "torn") rfl)
  have m_check_text := He.glo_ok X Gn (c.fact 5 (f := .glo "check_text") rfl)
  have m_frames_in := He.glo_ok X Gn (c.fact 25 (f := .glo "frames_in") rfl)
  have m_l_frames_in := He.glo_ok X Gn (c.fact 34 (f := .glo "_law_frames_in") rfl)
  have m_l_opened := He.glo_ok X Gn (c.fact 35 (f := .glo "_law_opened") rfl)
  have m_l_right := He.glo_ok X Gn (c.fact 37 (f := .glo "_law_right") rfl)
  have m_law := He.glo_ok X Gn (c.fact 38 (f := .glo "law") rfl)
  have e := hfa.symm.trans m_law
  cases e
  have g : G K mg := ⟨He.free_ok X Gn (c.fact 39 (f := .free "ValueError") rfl), He.free_ok X Gn (c.fact 40 (f := .free "abs") rfl), He.free_ok X Gn (c.fact 41 (f := .free "all") rfl), He.free_ok X Gn (c.fact 42 (f := .free "bool") rfl), He.free_ok X Gn (c.fact 43 (f := .free "divmod") rfl), He.free_ok X Gn (c.fact 44 (f := .free "enumerate") rfl), He.free_ok X Gn (c.fact 45 (f := .free "int") rfl), He.free_ok X Gn (c.fact 46 (f := .free "isinstance") rfl), He.free_ok X Gn (c.fact 47 (f := .free "len") rfl), He.free_ok X Gn (c.fact 48 (f := .free "list") rfl), He.free_ok X Gn (c.fact 49 (f := .free "max") rfl), He.free_ok X Gn (c.fact 50 (f := .free "min") rfl), He.free_ok X Gn (c.fact 51 (f := .free "range") rfl), He.free_ok X Gn (c.fact 52 (f := .free "str") rfl), He.free_ok X Gn (c.fact 53 (f := .free "sum") rfl), He.free_ok X Gn (c.fact 54 (f := .free "tuple") rfl), gl_str _ (He.str_ok X Gn (c.fact 55 (f := .str "DIGITS" "0123456789") rfl)) (by rfl) (by rfl), gl_str _ (He.str_ok X Gn (c.fact 56 (f := .str "SIGNS" " (),-./0123456789<=>|abcdefghijklmnopqrstuvwxyz") rfl)) (by rfl) (by rfl), gl_str _ (He.str_ok X Gn (c.fact 57 (f := .str "ADD" "add") rfl)) (by rfl) (by rfl), gl_str _ (He.str_ok X Gn (c.fact 58 (f := .str "CUT" "cut") rfl)) (by rfl) (by rfl), gl_int (He.int_ok X Gn (c.fact 59 (f := .int "LONGEST_WRITE" 9999) rfl)), gl_int (He.int_ok X Gn (c.fact 60 (f := .int "MODULUS" 997) rfl)), gl_int (He.int_ok X Gn (c.fact 61 (f := .int "LENGTH_DIGITS" 4) rfl)), gl_int (He.int_ok X Gn (c.fact 62 (f := .int "CHECK_DIGITS" 3) rfl)), gl_int (He.int_ok X Gn (c.fact 63 (f := .int "HEAD" 7) rfl)), gl_str _ (He.str_ok X Gn (c.fact 64 (f := .str "OF_END" "d") rfl)) (by rfl) (by rfl), gl_str _ (He.str_ok X Gn (c.fact 65 (f := .str "BLANK" " ") rfl)) (by rfl) (by rfl), gl_int (He.int_ok X Gn (c.fact 66 (f := .int "LONGEST_FRAMED" 999) rfl))⟩
  have b := FunD.bindsA (ps := ["script"]) Fn_law fun _ _ _ _ _ _ us hl => match us, hl with | [_], _ => rfl
  refine ⟨fd_law, fun s v => b s [v] rfl, fun base _ _ => ?_⟩
  have o_l_well : FnOk P w K mg base CX0 1 _ _ P_l_well (spD0 K 2 F_l_well) := ok_l_well g Fn_l_well
  have k_l_well := cl_of (st := top 52) (x := "_law_well") Fn_l_well m_l_well o_l_well (fun _ _ _ _ _ _ us hl => match us, hl with | [_, _], _ => rfl)
  have o_l_take : FnOk P w K mg base CX0 1 _ _ P_l_take (spD1 K 1 F_l_take) := ok_l_take g Fn_l_take
  have k_l_take := cl_of (st := top 53) (x := "_law_take") Fn_l_take m_l_take o_l_take (fun _ _ _ _ _ _ us hl => match us, hl with | [_, _], _ => rfl)
  have o_l_pick : FnOk P w K mg base CX0 2 _ _ P_l_pick (spD1 K 1 F_l_pick) := ok_l_pick g k_l_take Fn_l_pick
  have k_l_pick := cl_of (st := top 54) (x := "_law_pick") Fn_l_pick m_l_pick o_l_pick (fun _ _ _ _ _ _ us hl => match us, hl with | [_, _], _ => rfl)
  have o_l_text : FnOk P w K mg base CX0 3 _ _ P_l_text (spD1 K 1 F_l_text) := ok_l_text g k_l_pick k_l_take Fn_l_text
  have k_l_text := cl_of (st := top 62) (x := "_law_text") Fn_l_text m_l_text o_l_text (fun _ _ _ _ _ _ us hl => match us, hl with | [_, _], _ => rfl)
  have o_l_digits : FnOk P w K mg base CX0 1 _ _ P_l_digits (spD0 K 2 F_l_digits) := ok_l_digits g Fn_l_digits
  have k_l_digits := cl_of (st := top 57) (x := "_law_digits") Fn_l_digits m_l_digits o_l_digits (fun _ _ _ _ _ _ us hl => match us, hl with | [_, _], _ => rfl)
  have o_l_check : FnOk P w K mg base CX0 1 _ _ P_l_check (spD0 K 1 F_l_check) := ok_l_check g Fn_l_check
  have k_l_check := cl_of (st := top 56) (x := "_law_check") Fn_l_check m_l_check o_l_check (fun _ _ _ _ _ _ us hl => match us, hl with | [_], _ => rfl)
  have o_l_frame : FnOk P w K mg base CX0 2 _ _ P_l_frame (spD0 K 1 F_l_frame) := ok_l_frame g k_l_digits k_l_check Fn_l_frame
  have k_l_frame := cl_of (st := top 58) (x := "_law_frame") Fn_l_frame m_l_frame o_l_frame (fun _ _ _ _ _ _ us hl => match us, hl with | [_], _ => rfl)
  have o_l_stream : FnOk P w K mg base CX0 3 _ _ P_l_stream (spD0 K 1 F_l_stream) := ok_l_stream g k_l_frame Fn_l_stream
  have k_l_stream := cl_of (st := top 59) (x := "_law_stream") Fn_l_stream m_l_stream o_l_stream (fun _ _ _ _ _ _ us hl => match us, hl with | [_], _ => rfl)
  have o_l_same : FnOk P w K mg base CX0 5 _ _ P_l_same (spD0 K 2 F_l_same) := ok_l_same g Fn_l_same m_l_same 5
  have k_l_same := cl_of (st := top 55) (x := "_law_same") Fn_l_same m_l_same o_l_same (fun _ _ _ _ _ _ us hl => match us, hl with | [_, _], _ => rfl)
  have o_is_text_of : FnOk P w K mg base CX0 1 _ _ P_is_text_of (spD0 K 2 F_is_text_of) := ok_is_text_of g Fn_is_text_of
  have k_is_text_of := cl_of (st := top 9) (x := "is_text_of") Fn_is_text_of m_is_text_of o_is_text_of (fun _ _ _ _ _ _ us hl => match us, hl with | [_, _], _ => rfl)
  have o_is_signed : FnOk P w K mg base CX0 2 _ _ P_is_signed (spD0 K 1 F_is_signed) := ok_is_signed g k_is_text_of Fn_is_signed
  have k_is_signed := cl_of (st := top 13) (x := "is_signed") Fn_is_signed m_is_signed o_is_signed (fun _ _ _ _ _ _ us hl => match us, hl with | [_], _ => rfl)
  have o_check_signs : FnOk P w K mg base CX0 3 _ _ P_check_signs (spD0 K 1 F_check_signs) := ok_check_signs g k_is_signed Fn_check_signs
  have k_check_signs := cl_of (st := top 16) (x := "check_signs") Fn_check_signs m_check_signs o_check_signs (fun _ _ _ _ _ _ us hl => match us, hl with | [_], _ => rfl)
  have o_is_tuple_of : FnOk P w K mg base CX0 1 _ _ P_is_tuple_of (spD0 K 2 F_is_tuple_of) := ok_is_tuple_of g Fn_is_tuple_of
  have k_is_tuple_of := cl_of (st := top 8) (x := "is_tuple_of") Fn_is_tuple_of m_is_tuple_of o_is_tuple_of (fun _ _ _ _ _ _ us hl => match us, hl with | [_, _], _ => rfl)
  have o_is_whole : FnOk P w K mg base CX0 1 _ _ P_is_whole (spD0 K 1 F_is_whole) := ok_is_whole g Fn_is_whole
  have k_is_whole := cl_of (st := top 6) (x := "is_whole") Fn_is_whole m_is_whole o_is_whole (fun _ _ _ _ _ _ us hl => match us, hl with | [_], _ => rfl)
  have o_is_between : FnOk P w K mg base CX0 2 _ _ P_is_between (spD0 K 3 F_is_between) := ok_is_between g k_is_whole Fn_is_between
  have k_is_between := cl_of (st := top 7) (x := "is_between") Fn_is_between m_is_between o_is_between (fun _ _ _ _ _ _ us hl => match us, hl with | [_, _, _], _ => rfl)
  have o_is_write_of : FnOk P w K mg base CX0 3 _ _ P_is_write_of (spD0 K 2 F_is_write_of) := ok_is_write_of g k_is_signed k_is_between k_is_tuple_of Fn_is_write_of
  have k_is_write_of := cl_of (st := top 21) (x := "is_write_of") Fn_is_write_of m_is_write_of o_is_write_of (fun _ _ _ _ _ _ us hl => match us, hl with | [_, _], _ => rfl)
  have o_check_write : FnOk P w K mg base CX0 4 _ _ P_check_write (spD0 K 2 F_check_write) := ok_check_write g k_is_write_of Fn_check_write
  have k_check_write := cl_of (st := top 42) (x := "check_write") Fn_check_write m_check_write o_check_write (fun _ _ _ _ _ _ us hl => match us, hl with | [_, _], _ => rfl)
  have o_torn_by : FnOk P w K mg base CX0 1 _ _ P_torn_by (spD0 K 3 F_torn_by) := ok_torn_by g Fn_torn_by
  have k_torn_by := cl_of (st := top 35) (x := "torn_by") Fn_torn_by m_torn_by o_torn_by (fun _ _ _ _ _ _ us hl => match us, hl with | [_, _, _], _ => rfl)
  have o_signs_of : FnOk P w K mg base CX0 1 _ _ P_signs_of (spD0 K 1 F_signs_of) := ok_signs_of g Fn_signs_of
  have k_signs_of := cl_of (st := top 22) (x := "signs_of") Fn_signs_of m_signs_of o_signs_of (fun _ _ _ _ _ _ us hl => match us, hl with | [_], _ => rfl)
  have o_written_by : FnOk P w K mg base CX0 2 _ _ P_written_by (spD0 K 2 F_written_by) := ok_written_by g k_torn_by k_signs_of Fn_written_by
  have k_written_by := cl_of (st := top 36) (x := "written_by") Fn_written_by m_written_by o_written_by (fun _ _ _ _ _ _ us hl => match us, hl with | [_, _], _ => rfl)
  have o_behind_writes : FnOk P w K mg base CX0 5 _ _ P_behind_writes (spD0 K 2 F_behind_writes) := ok_behind_writes g k_written_by k_check_write k_check_signs Fn_behind_writes
  have k_behind_writes := cl_of (st := top 45) (x := "behind_writes") Fn_behind_writes m_behind_writes o_behind_writes (fun _ _ _ _ _ _ us hl => match us, hl with | [_, _], _ => rfl)
  have o_check_of : FnOk P w K mg base CX0 1 _ _ P_check_of (spD0 K 1 F_check_of) := ok_check_of g Fn_check_of
  have k_check_of := cl_of (st := top 28) (x := "check_of") Fn_check_of m_check_of o_check_of (fun _ _ _ _ _ _ us hl => match us, hl with | [_], _ => rfl)
  have o_text_at : FnOk P w K mg base CX0 2 _ _ P_text_at (spD0 K 2 F_text_at) := ok_text_at g k_check_of k_is_text_of Fn_text_at
  have k_text_at := cl_of (st := top 30) (x := "text_at") Fn_text_at m_text_at o_text_at (fun _ _ _ _ _ _ us hl => match us, hl with | [_, _], _ => rfl)
  have o_frames_by : FnOk P w K mg base CX0 3 _ _ P_frames_by (spD0 K 1 F_frames_by) := ok_frames_by g k_text_at Fn_frames_by
  have k_frames_by := cl_of (st := top 31) (x := "frames_by") Fn_frames_by m_frames_by o_frames_by (fun _ _ _ _ _ _ us hl => match us, hl with | [_], _ => rfl)
  have o_whole_notes : FnOk P w K mg base CX0 4 _ _ P_whole_notes (spD0 K 1 F_whole_notes) := ok_whole_notes g k_frames_by Fn_whole_notes
  have k_whole_notes := cl_of (st := top 37) (x := "whole_notes") Fn_whole_notes m_whole_notes o_whole_notes (fun _ _ _ _ _ _ us hl => match us, hl with | [_], _ => rfl)
  have o_end_of : FnOk P w K mg base CX0 1 _ _ P_end_of (spD0 K 1 F_end_of) := ok_end_of g Fn_end_of
  have k_end_of := cl_of (st := top 38) (x := "end_of") Fn_end_of m_end_of o_end_of (fun _ _ _ _ _ _ us hl => match us, hl with | [_], _ => rfl)
  have o_cut_writes : FnOk P w K mg base CX0 1 _ _ P_cut_writes (spD0 K 2 F_cut_writes) := ok_cut_writes g Fn_cut_writes
  have k_cut_writes := cl_of (st := top 39) (x := "cut_writes") Fn_cut_writes m_cut_writes o_cut_writes (fun _ _ _ _ _ _ us hl => match us, hl with | [_, _], _ => rfl)
  have o_opened_by : FnOk P w K mg base CX0 5 _ _ P_opened_by (spD0 K 1 F_opened_by) := ok_opened_by g k_cut_writes k_end_of k_whole_notes Fn_opened_by
  have k_opened_by := cl_of (st := top 40) (x := "opened_by") Fn_opened_by m_opened_by o_opened_by (fun _ _ _ _ _ _ us hl => match us, hl with | [_], _ => rfl)
  have o_opened : FnOk P w K mg base CX0 6 _ _ P_opened (spD0 K 1 F_opened) := ok_opened g k_opened_by k_check_signs Fn_opened
  have k_opened := cl_of (st := top 46) (x := "opened") Fn_opened m_opened o_opened (fun _ _ _ _ _ _ us hl => match us, hl with | [_], _ => rfl)
  have kk_opened_0 := clK_of (st := top 46) (x := "opened") (n := 0) (ks := ["log"]) Fn_opened m_opened o_opened (fun _ _ _ _ _ _ us ws h1 h2 => match us, ws, h1, h2 with | [], [_], _, _ => rfl)
  have o_frame_of : FnOk P w K mg base CX0 2 _ _ P_frame_of (spD0 K 1 F_frame_of) := ok_frame_of g k_check_of Fn_frame_of
  have k_frame_of := cl_of (st := top 29) (x := "frame_of") Fn_frame_of m_frame_of o_frame_of (fun _ _ _ _ _ _ us hl => match us, hl with | [_], _ => rfl)
  have o_frame : FnOk P w K mg base CX0 4 _ _ P_frame (spD0 K 1 F_frame) := ok_frame g k_frame_of k_check_signs Fn_frame
  have k_frame := cl_of (st := top 49) (x := "frame") Fn_frame m_frame o_frame (fun _ _ _ _ _ _ us hl => match us, hl with | [_], _ => rfl)
  have o_check_between : FnOk P w K mg base CX0 3 _ _ P_check_between (spD0 K 3 F_check_between) := ok_check_between g k_is_between Fn_check_between
  have k_check_between := cl_of (st := top 43) (x := "check_between") Fn_check_between m_check_between o_check_between (fun _ _ _ _ _ _ us hl => match us, hl with | [_, _, _], _ => rfl)
  have o_torn : FnOk P w K mg base CX0 5 _ _ P_torn (spD0 K 3 F_torn) := ok_torn g k_torn_by k_check_between k_signs_of k_check_write k_check_signs Fn_torn
  have k_torn := cl_of (st := top 44) (x := "torn") Fn_torn m_torn o_torn (fun _ _ _ _ _ _ us hl => match us, hl with | [_, _, _], _ => rfl)
  have o_check_text : FnOk P w K mg base CX0 1 _ _ P_check_text (spD0 K 1 F_check_text) := ok_check_text g Fn_check_text
  have k_check_text := cl_of (st := top 15) (x := "check_text") Fn_check_text m_check_text o_check_text (fun _ _ _ _ _ _ us hl => match us, hl with | [_], _ => rfl)
  have o_frames_in : FnOk P w K mg base CX0 4 _ _ P_frames_in (spD0 K 1 F_frames_in) := ok_frames_in g k_frames_by k_check_text Fn_frames_in
  have k_frames_in := cl_of (st := top 50) (x := "frames_in") Fn_frames_in m_frames_in o_frames_in (fun _ _ _ _ _ _ us hl => match us, hl with | [_], _ => rfl)
  have o_l_frames_in : FnOk P w K mg base CX0 2 _ _ P_l_frames_in (spD0 K 1 F_l_frames_in) := ok_l_frames_in g k_l_digits k_l_check Fn_l_frames_in
  have k_l_frames_in := cl_of (st := top 60) (x := "_law_frames_in") Fn_l_frames_in m_l_frames_in o_l_frames_in (fun _ _ _ _ _ _ us hl => match us, hl with | [_], _ => rfl)
  have o_l_opened : FnOk P w K mg base CX0 4 _ _ P_l_opened (spD0 K 1 F_l_opened) := ok_l_opened g k_l_stream k_l_frames_in Fn_l_opened
  have k_l_opened := cl_of (st := top 61) (x := "_law_opened") Fn_l_opened m_l_opened o_l_opened (fun _ _ _ _ _ _ us hl => match us, hl with | [_], _ => rfl)
  have o_l_right : FnOk P w K mg base CX0 7 _ _ P_l_right (spD1 K 1 F_l_right) := ok_l_right g k_l_same k_l_opened k_opened k_l_pick k_l_frame k_l_take k_frames_in k_frame k_behind_writes k_torn k_l_stream kk_opened_0 Fn_l_right
  have k_l_right := cl_of (st := top 63) (x := "_law_right") Fn_l_right m_l_right o_l_right (fun _ _ _ _ _ _ us hl => match us, hl with | [_, _], _ => rfl)
  have o_law : FnOk P w K mg base CX0 8 _ _ P_law (spD0 K 1 F_law) := ok_law g k_l_right k_l_text k_l_well Fn_law
  exact o_law
end LL

namespace DL
open PySem PySem.Spec PyProof.Rows L2
@[simp] theorem gSub_i (i j : Int) : gSub (.int i) (.int j) = some (.int (i - j)) := rfl
@[simp] theorem gMod_i (i j : Int) : gMod (.int i) (.int j) = if 0 < j then some (.int (i % j)) else none := by simp [gMod, gI]
@[simp] theorem gDiv_i (i j : Int) : gDiv (.int i) (.int j) = if 0 < j ∧ j < 1073741824 then some (.int (i / j)) else none := by simp [gDiv, gI]
@[simp] theorem gPow_i (i j : Int) : gPow (.int i) (.int j) = if 0 ≤ j ∧ j ≤ 1000000 ∧ i.natAbs < 2 ^ 64 then some (.int (i ^ j.toNat)) else none := by simp [gPow, gI]
@[simp] theorem gLt_i (i j : Int) : gLt (.int i) (.int j) = some (.bl (decide (i < j))) := rfl
@[simp] theorem gLe_i (i j : Int) : gLe (.int i) (.int j) = some (.bl (decide (i ≤ j))) := rfl
@[simp] theorem gGt_i (i j : Int) : gGt (.int i) (.int j) = some (.bl (decide (j < i))) := rfl
@[simp] theorem gGe_i (i j : Int) : gGe (.int i) (.int j) = some (.bl (decide (j ≤ i))) := rfl
@[simp] theorem gEq_ii (i j : Int) : gEq (.int i) (.int j) = some (.bl (decide (i = j))) := by simp [gEq, D.dle, D.eqv]; rfl
@[simp] theorem gNe_ii (i j : Int) : gNe (.int i) (.int j) = some (.bl (!decide (i = j))) := by simp [gNe, D.dle, D.eqv]; rfl
theorem eq_beq (x y : List Nat) : (x == y) = decide (x = y) := by rw [Bool.eq_iff_iff]; simp
@[simp] theorem gEq_ss (x y : List Nat) : gEq (.str x) (.str y) = some (.bl (decide (x = y))) := by
  simp only [gEq, D.dle, D.eqv, Bool.and_self, if_true, eq_beq]
@[simp] theorem gNe_ss (x y : List Nat) : gNe (.str x) (.str y) = some (.bl (!decide (x = y))) := by
  simp only [gNe, D.dle, D.eqv, Bool.and_self, if_true, eq_beq]
@[simp] theorem gEq_bb (x y : Bool) : gEq (.bl x) (.bl y) = some (.bl (decide (x = y))) := by
  simp only [gEq, D.dle, D.eqv, Bool.and_self, if_true]
  congr 2
@[simp] theorem gNe_bb (x y : Bool) : gNe (.bl x) (.bl y) = some (.bl (!decide (x = y))) := by
  simp only [gNe, D.dle, D.eqv, Bool.and_self, if_true]
  congr 3
theorem dles_str (n : Nat) : ∀ l : List (List Nat), D.dles (n + 1) (l.map D.str) = true
  | [] => by simp [D.dles]
  | x :: r => by simp [D.dles, D.dle, dles_str n r]
theorem joinL_nil : ∀ l : List (List Nat), joinL [] l = l.flatten
  | [] => rfl
  | [x] => by simp [joinL]
  | x :: y :: r => by
    have := joinL_nil (y :: r)
    simp only [joinL, this]; simp
theorem strL_dig (i : Int) (h0 : 0 ≤ i) (h1 : i < 10) : strL i = [48 + i.toNat] := by
  have : i = 0 ∨ i = 1 ∨ i = 2 ∨ i = 3 ∨ i = 4 ∨ i = 5 ∨ i = 6 ∨ i = 7 ∨ i = 8 ∨ i = 9 := by omega
  rcases this with rfl | rfl | rfl | rfl | rfl | rfl | rfl | rfl | rfl | rfl <;> decide +kernel
theorem wipe1 (ρ : En) (v : Nat) : wipeE ρ [v] = ρ.set v .no := rfl
/-! ### loops -/
/-- what a comprehension's turns do: a state a, the slots st a -/
def runL {α : Type} (f : D → α → Option D × α) : List D → α → List D × α
  | [], a => ([], a)
  | x :: r, a => ((f x a).1.toList ++ (runL f r (f x a).2).1, (runL f r (f x a).2).2)
theorem lc_run {α : Type} {vs : List Nat} {turn : D → En → Res (Option D)} (st : α → En) (f : D → α → Option D × α) (I : α → Prop) : ∀ (items acc : List D) (a : α), I a → (∀ x ∈ items, ∀ a, I a → I (f x a).2 ∧ ∃ ρ', turn x (st a) = .ok (f x a).1 ρ' ∧ wipeE ρ' vs = st (f x a).2) → acc.length + items.length ≤ LIM →
    lcLoop vs turn items acc (st a) = .ok (acc ++ (runL f items a).1) (st (runL f items a).2) ∧ I (runL f items a).2
  | [], acc, a, ha, _, _ => by unfold lcLoop runL; simp; exact ha
  | x :: r, acc, a, ha, h, hl => by
    obtain ⟨h1, ρ', h2, h3⟩ := h x (List.mem_cons_self ..) a ha
    simp only [List.length_cons] at hl
    have hlt : acc.length < LIM := by omega
    unfold lcLoop runL
    rw [h2]
    simp only [Res.bind, hlt, if_true, h3]
    cases ho : (f x a).1 with
    | none =>
      obtain ⟨q1, q2⟩ := lc_run st f I r acc (f x a).2 h1 (fun y hy => h y (List.mem_cons_of_mem _ hy)) (by omega)
      exact ⟨by simp only [q1]; simp, q2⟩
    | some d =>
      obtain ⟨q1, q2⟩ := lc_run st f I r (acc ++ [d]) (f x a).2 h1 (fun y hy => h y (List.mem_cons_of_mem _ hy)) (by simp; omega)
      exact ⟨by simp only [q1]; simp, q2⟩
/-- each item gives a value -/
theorem lc_map {vs : List Nat} {turn : D → En → Res (Option D)} {ρ : En} (g : D → D) {items acc : List D} (h : ∀ x ∈ items, ∃ ρ', turn x ρ = .ok (some (g x)) ρ' ∧ wipeE ρ' vs = ρ) (hl : acc.length + items.length ≤ LIM) :
    lcLoop vs turn items acc ρ = .ok (acc ++ items.map g) ρ := by
  have := (lc_run (fun _ : Unit => ρ) (fun x _ => (some (g x), ())) (fun _ => True) items acc () trivial (fun x hx a _ => ⟨trivial, h x hx⟩) hl).1
  have e : ∀ l : List D, (runL (fun x (_ : Unit) => (some (g x), ())) l ()).1 = l.map g := fun l => by
    induction l with
    | nil => rfl
    | cons x r ih => unfold runL; simp [ih]
  rw [e] at this
  exact this
/-- items kept by a test -/
theorem lc_filter {vs : List Nat} {turn : D → En → Res (Option D)} {ρ : En} (p : D → Bool) (g : D → D) {items acc : List D} (h : ∀ x ∈ items, ∃ ρ', turn x ρ = .ok (if p x then some (g x) else none) ρ' ∧ wipeE ρ' vs = ρ) (hl : acc.length + items.length ≤ LIM) :
    lcLoop vs turn items acc ρ = .ok (acc ++ (items.filter p).map g) ρ := by
  have := (lc_run (fun _ : Unit => ρ) (fun x _ => (if p x then some (g x) else none, ())) (fun _ => True) items acc () trivial (fun x hx a _ => ⟨trivial, h x hx⟩) hl).1
  have e : ∀ l : List D, (runL (fun x (_ : Unit) => ((if p x then some (g x) else none : Option D), ())) l ()).1 = (l.filter p).map g := fun l => by
    induction l with
    | nil => rfl
    | cons x r ih =>
      unfold runL
      by_cases hp : p x = true <;> simp [ih, hp]
  rw [e] at this
  exact this
/-- values that are only known to be good; the state runs through -/
theorem lc_any {α : Type} {vs : List Nat} {turn : D → En → Res (Option D)} (st : α → En) (I : α → Prop) (G : D → Prop) : ∀ (items acc : List D) (a : α), I a → (∀ x ∈ items, ∀ a, I a → ∃ d a' ρ', G d ∧ I a' ∧ turn x (st a) = .ok (some d) ρ' ∧ wipeE ρ' vs = st a') → acc.length + items.length ≤ LIM →
    ∃ out a', out.length = items.length ∧ (∀ d ∈ out, G d) ∧ I a' ∧ lcLoop vs turn items acc (st a) = .ok (acc ++ out) (st a')
  | [], acc, a, ha, _, _ => ⟨[], a, rfl, (fun _ h => by cases h), ha, by unfold lcLoop; simp⟩
  | x :: r, acc, a, ha, h, hl => by
    obtain ⟨d, a', ρ', hG, hI, h2, h3⟩ := h x (List.mem_cons_self ..) a ha
    simp only [List.length_cons] at hl
    have hlt : acc.length < LIM := by omega
    obtain ⟨out, a2, l1, g1, i1, e1⟩ := lc_any st I G r (acc ++ [d]) a' hI (fun y hy => h y (List.mem_cons_of_mem _ hy)) (by simp; omega)
    refine ⟨d :: out, a2, by simp [l1], fun z hz => ?_, i1, ?_⟩
    · rcases List.mem_cons.mp hz with z1 | z1
      · rw [z1]; exact hG
      · exact g1 z z1
    · unfold lcLoop
      rw [h2]
      simp only [Res.bind, hlt, if_true, h3, e1]
      simp
/-- a loop that runs through -/
theorem sl_inv {g : D → En → Option En} {fb : En → Res Fl} (I : Nat → En → Prop) : ∀ (items : List D) (k : Nat) (ρ : En), I k ρ → (∀ i x ρ, items[i]? = some x → I (k + i) ρ → ∃ ρ1 ρ2, g x ρ = some ρ1 ∧ (fb ρ1 = .ok .nx ρ2 ∨ fb ρ1 = .ok .ct ρ2) ∧ I (k + i + 1) ρ2) →
    ∃ ρ', sLoop g fb items ρ = .ok .nx ρ' ∧ I (k + items.length) ρ'
  | [], k, ρ, h, _ => ⟨ρ, rfl, h⟩
  | x :: r, k, ρ, h, hs => by
    obtain ⟨ρ1, ρ2, h1, h2, h3⟩ := hs 0 x ρ rfl h
    obtain ⟨ρ', q1, q2⟩ := sl_inv I r (k + 1) ρ2 (by simpa using h3) fun i y ρ hy hi => by
      have e : k + 1 + i = k + (i + 1) := by omega
      rw [e] at hi ⊢
      exact hs (i + 1) y ρ (by simpa using hy) hi
    refine ⟨ρ', ?_, by simp only [List.length_cons]; rw [show k + (r.length + 1) = k + 1 + r.length by omega]; exact q2⟩
    unfold sLoop
    rw [h1]
    rcases h2 with h2 | h2 <;> simp only [optR, h2, Res.bind, q1]
end DL

namespace LL
open PySem PySem.Spec PyProof.Rows L2 DL
def Well (w : List D) : Prop := ∃ a s c : Int, w = [.int a, .int s, .int c]
theorem take_ok {w : List D} (hw : Well w) {m : Int} (h1 : 0 < m) (h2 : m < 1073741824) : ∃ r w', Well w' ∧ 0 ≤ r ∧ r < m ∧ F_l_take w [.int m] = .ok (.val (.int r)) [.pw w'] := by
  obtain ⟨a, s, c, rfl⟩ := hw
  by_cases ha : 0 < a
  · refine ⟨a % m, _, ⟨a / m, s, c, rfl⟩, Int.emod_nonneg _ (by omega), Int.emod_lt_of_pos _ h1, ?_⟩
    simp [F_l_take, f_l_take, atI, ixN, ha, h1, h2]
  · refine ⟨(s * (s % 28657 + 40009) + 50023 * (c + 1) + 17) % 2147483563 / 83 % m, _, ⟨a, (s * (s % 28657 + 40009) + 50023 * (c + 1) + 17) % 2147483563, c + 1, rfl⟩, Int.emod_nonneg _ (by omega), Int.emod_lt_of_pos _ h1, ?_⟩
    have hc : cMul s (s % 28657 + 40009) = true := by
      have h3 := Int.emod_nonneg s (show (28657 : Int) ≠ 0 by decide)
      have h4 := Int.emod_lt_of_pos s (show (0 : Int) < 28657 by decide)
      unfold cMul
      rw [Bool.or_eq_true_iff]
      exact .inr (decide_eq_true (by omega))
    have hd : cMul 50023 (c + 1) = true := by unfold cMul; rfl
    simp [F_l_take, f_l_take, atI, ixN, ha, h1, h2, hc, hd]
theorem well_ok {ns : List Int} {t : Int} (ht : 0 ≤ t) : ∃ w, Well w ∧ F_l_well [.scr ns, .int t] = .ok (.fr w) [] := by
  have t0 : ¬ t < 0 := by omega
  -- the own number
  obtain ⟨o, ho⟩ : ∃ o : Int, (sAs (dIf (dBo (dBin gLt (dVar 1) (dCall gLen (dCons (dVar 0) (dNil))))) (dCall gInt (dCons (dBin gIx (dVar 0) (dVar 1)) (dNil))) (dBin gAdd (dBin gAdd (dBin gMul (dC (.int 9311)) (dVar 1)) (dBin gMod (dCall gInt (dCons (dCall gSum (dCons (dSl (dVar 0) (dNP) (dPt (dC (.int 2)))) (dNil))) (dNil))) (dC (.int 1000003)))) (dC (.int 71)))) (gN 2)) [.fz (.scr ns), .fz (.int t), .no, .no, .no] = .ok .nx [.fz (.scr ns), .fz (.int t), .fz (.int o), .no, .no] := by
    by_cases h : t < ns.length
    · refine ⟨ns[t.toNat]'(by omega), ?_⟩
      have h3 : t.toNat < ns.length := by omega
      simp [h, atI, ixN, ht, h3]
    · have hc : cMul 9311 t = true := by unfold cMul; rfl
      refine ⟨9311 * t + (cutL ns none (some 2)).sum % 1000003 + 71, ?_⟩
      simp [h, hc, gSl, gSum, intsD_map]
  have hl : (cutL ns none (some 5)).length ≤ LIM := by
    have h5 : (cutL ns none (some 5)).length ≤ 5 := by
      unfold cutL
      rw [List.length_take]
      have : HT.sIx ns.length ns.length (some 5) ≤ 5 := by simp [HT.sIx]; omega
      omega
    exact Nat.le_trans h5 (by decide)
  have hl2 : (cutL ns none (some 5)).length + 1 ≤ LIM := by
    have h5 : (cutL ns none (some 5)).length ≤ 5 := by
      unfold cutL
      rw [List.length_take]
      have : HT.sIx ns.length ns.length (some 5) ≤ 5 := by simp [HT.sIx]; omega
      omega
    exact Nat.le_trans (Nat.succ_le_succ h5) (by decide)
  -- the loop
  obtain ⟨ρ', e1, s', r', e2⟩ := sl_inv (g := gN 4) (fb := sAs (dBin gMod (dCall gInt (dCons (dBin gAdd (dBin gAdd (dBin gMul (dVar 3) (dC (.int 45013))) (dBin gMod (dCall gInt (dCons (dVar 4) (dNil))) (dC (.int 2147483399)))) (dC (.int 37))) (dNil))) (dC (.int 2147483563))) (gN 3))
    (fun _ ρ => ∃ s r, ρ = [.fz (.scr ns), .fz (.int t), .fz (.int o), .fz (.int s), r]) ((cutL ns none (some 5)).map D.int ++ [.int o]) 0 [.fz (.scr ns), .fz (.int t), .fz (.int o), .fz (.int (50021 + 1013 * t)), .no] ⟨_, _, rfl⟩ (by
      rintro i x ρ hx ⟨s, r, rfl⟩
      have hx : ∃ c, x = D.int c := by
        have := List.mem_of_getElem? hx
        simp only [List.mem_append, List.mem_map, List.mem_singleton] at this
        rcases this with ⟨c, _, e⟩ | e
        · exact ⟨c, e.symm⟩
        · exact ⟨o, e⟩
      obtain ⟨c, rfl⟩ := hx
      have hc : cMul s 45013 = true := by unfold cMul; rw [Bool.or_eq_true_iff]; exact .inr rfl
      refine ⟨[.fz (.scr ns), .fz (.int t), .fz (.int o), .fz (.int s), .fz (.int c)], _, rfl, .inl ?_, (s * 45013 + c % 2147483399 + 37) % 2147483563, .fz (.int c), rfl⟩
      simp [hc])
  refine ⟨[.int (if o < 0 ∨ 100000000000000000 ≤ o then (if o < 0 then -o else o) else 0), .int s', .int 0], ⟨_, _, _, rfl⟩, ?_⟩
  have hc : cMul 1013 t = true := by unfold cMul; rfl
  have lim1 : (3 : Nat) ≤ LIM := by decide
  have lim2 : (1 : Nat) ≤ LIM := by decide
  have e0 : (entry 5 [.scr ns, .int t]) = [.fz (.scr ns), .fz (.int t), .no, .no, .no] := rfl
  unfold F_l_well dFun0 f_l_well
  rw [e0]
  unfold sSeq
  rw [ho]
  simp [hc, gSl, hl2, lim2, itemsD, e1, e2]
  by_cases h1 : o < 0
  · simp [h1, lim1]
  · by_cases h2 : (100000000000000000 : Int) ≤ o
    · simp [h1, h2, lim1]
    · simp [h1, h2, lim1]
theorem pick_str {w : List D} (hw : Well w) {x : List Nat} (h1 : x ≠ []) (h2 : x.length < 1073741824) : ∃ c ∈ x, ∃ w', Well w' ∧ F_l_pick w [.str x] = .ok (.val (.str [c])) [.pw w'] := by
  have hl : 0 < x.length := List.length_pos_iff.mpr h1
  obtain ⟨r, w', hw', r0, r1, e⟩ := take_ok hw (m := (x.length : Int)) (by omega) (by omega)
  have hr : r.toNat < x.length := by omega
  refine ⟨x[r.toNat], List.getElem_mem _, w', hw', ?_⟩
  simp [F_l_pick, f_l_pick, e, atI, ixN, r0, r1, hr]
theorem pick_lst {w : List D} (hw : Well w) {x : List D} (h1 : x ≠ []) (h2 : x.length < 1073741824) : ∃ d ∈ x, ∃ w', Well w' ∧ F_l_pick w [.lst x] = .ok (.val d) [.pw w'] := by
  have hl : 0 < x.length := List.length_pos_iff.mpr h1
  obtain ⟨r, w', hw', r0, r1, e⟩ := take_ok hw (m := (x.length : Int)) (by omega) (by omega)
  have hr : r.toNat < x.length := by omega
  refine ⟨x[r.toNat], List.getElem_mem _, w', hw', ?_⟩
  simp [F_l_pick, f_l_pick, e, atI, ixN, r0, r1, hr]
def SG : List Nat := [32, 40, 41, 44, 45, 46, 47, 48, 49, 50, 51, 52, 53, 54, 55, 56, 57, 60, 61, 62, 124, 97, 98, 99, 100, 101, 102, 103, 104, 105, 106, 107, 108, 109, 110, 111, 112, 113, 114, 115, 116, 117, 118, 119, 120, 121, 122]
def DG : List Nat := [48, 49, 50, 51, 52, 53, 54, 55, 56, 57]
/-- a text as the law makes them -/
def Txt (t : List Nat) : Prop := 1 ≤ t.length ∧ t.length ≤ 999 ∧ ∀ c ∈ t, c ∈ SG
theorem text_ok {w : List D} (hw : Well w) {m : Int} (h1 : 1 ≤ m) (h2 : m ≤ 999) : ∃ t w', Well w' ∧ (Txt t ∧ t.length ≤ m.toNat + 15) ∧ F_l_text w [.int m] = .ok (.val (.str t)) [.pw w'] := by
  obtain ⟨r, w1, hw1, r0, r1, e1⟩ := take_ok hw (m := 4) (by omega) (by omega)
  obtain ⟨k, w2, hw2, k0, k1, e2⟩ := take_ok hw1 (m := m) (by omega) (by omega)
  by_cases hr : r = 3
  · subst hr
    obtain ⟨n, w3, hw3, n0, n1, e3⟩ := take_ok hw2 (m := 9) (by omega) (by omega)
    obtain ⟨d, hd, w4, hw4, e4⟩ := pick_lst hw3 (x := [.str [], .str [32, 118, 111, 105, 100, 32, 116], .str [32, 114, 111, 119, 32, 116, 32, 40, 32, 49, 32, 41], .str [32]]) (by simp) (by decide)
    obtain ⟨y, hy, hy2, hy3⟩ : ∃ y, d = .str y ∧ y.length ≤ 12 ∧ ∀ c ∈ y, c ∈ SG := by
      simp only [List.mem_cons, List.not_mem_nil, or_false] at hd
      rcases hd with e | e | e | e
      · exact ⟨_, e, by decide, by decide⟩
      · exact ⟨_, e, by decide, by decide⟩
      · exact ⟨_, e, by decide, by decide⟩
      · exact ⟨_, e, by decide, by decide⟩
    subst hy
    have es := strL_dig (1 + n) (by omega) (by omega)
    have lim : (4 : Nat) ≤ LIM := by decide
    have lim3 : (3 : Nat) ≤ LIM := by decide
    have lim2 : 3 + y.length ≤ LIM := Nat.le_trans (show 3 + y.length ≤ 15 by omega) (by decide)
    have lg : (1 + n).natAbs.log2 < 1920 := Nat.lt_of_le_of_lt (Nat.log2_le_self _) (by omega)
    have ok : okS [48 + (1 + n).toNat] = true := by
      have : n = 0 ∨ n = 1 ∨ n = 2 ∨ n = 3 ∨ n = 4 ∨ n = 5 ∨ n = 6 ∨ n = 7 ∨ n = 8 := by omega
      rcases this with rfl | rfl | rfl | rfl | rfl | rfl | rfl | rfl | rfl <;> decide
    refine ⟨[100, 32] ++ [48 + (1 + n).toNat] ++ y, w4, hw4, ⟨⟨by simp, by simp; omega, fun c hc => ?_⟩, by simp; omega⟩, ?_⟩
    · simp only [List.mem_append, List.mem_cons, List.not_mem_nil, or_false] at hc
      rcases hc with ((rfl | rfl) | rfl) | hc
      · decide
      · decide
      · have : n = 0 ∨ n = 1 ∨ n = 2 ∨ n = 3 ∨ n = 4 ∨ n = 5 ∨ n = 6 ∨ n = 7 ∨ n = 8 := by omega
        rcases this with rfl | rfl | rfl | rfl | rfl | rfl | rfl | rfl | rfl <;> decide
      · exact hy3 c hc
    · simp [F_l_text, f_l_text, e1, e2, e3, e4, gStr, es, lg, ok, lim, lim3, lim2]
  · have hs : ∃ s : List Nat, s ≠ [] ∧ s.length ≤ 47 ∧ (∀ c ∈ s, c ∈ SG) ∧ atI [D.str SG, D.str DG, D.str [100, 32, 109, 116, 107, 111, 32, 124, 46]] r = some (.str s) := by
      have : r = 0 ∨ r = 1 ∨ r = 2 := by omega
      rcases this with rfl | rfl | rfl
      · exact ⟨SG, by decide, by decide, fun _ h => h, rfl⟩
      · exact ⟨DG, by decide, by decide, by decide, rfl⟩
      · exact ⟨[100, 32, 109, 116, 107, 111, 32, 124, 46], by decide, by decide, by decide, rfl⟩
    obtain ⟨s, s1, s2, s3, s4⟩ := hs
    obtain ⟨out, a', l1, g1, i1, e3⟩ := lc_any (vs := [5]) (turn := dTurn (gN 5) dYes (dCal1 1 0 F_l_pick (dCons (dVar 4) (dNil)))) (fun w : List D => [.pw w, .fz (.int m), .fz (.int r), .fz (.int (1 + k)), .fz (.str s), .no]) Well (fun d => ∃ c ∈ SG, d = .str [c]) (rangeD 0 (1 + k).toNat) [] w2 hw2 (by
      intro x hx w hw
      obtain ⟨c, hc, w', hw', e⟩ := pick_str hw s1 (by omega)
      refine ⟨.str [c], w', [.pw w', .fz (.int m), .fz (.int r), .fz (.int (1 + k)), .fz (.str s), .fz x], ⟨c, s3 c hc, rfl⟩, hw', ?_, rfl⟩
      simp [e]) (by simp only [rangeD, List.length_map, List.length_range, List.length_nil, Nat.zero_add]; exact Nat.le_trans (show (1 + k).toNat ≤ 999 by omega) (show 999 ≤ LIM by decide))
    obtain ⟨cs, hcs, rfl⟩ : ∃ cs : List Nat, (∀ c ∈ cs, c ∈ SG) ∧ out = (cs.map fun c => [c]).map D.str := by
      clear e3 l1
      induction out with
      | nil => exact ⟨[], (fun _ h => by cases h), rfl⟩
      | cons d r ih =>
        obtain ⟨cs, h1, h2⟩ := ih fun d hd => g1 d (List.mem_cons_of_mem _ hd)
        obtain ⟨c, hc, rfl⟩ := g1 d (List.mem_cons_self ..)
        exact ⟨c :: cs, fun x hx => (List.mem_cons.mp hx).elim (fun e => e ▸ hc) (h1 x), by rw [h2]; rfl⟩
    have fl : ((cs.map fun c => [c]) : List (List Nat)).flatten = cs := by
      clear e3 l1 g1 hcs
      induction cs with
      | nil => rfl
      | cons c r ih => simp [ih]
    have sm : (((cs.map fun c => [c]) : List (List Nat)).map List.length).sum = cs.length := by
      clear e3 l1 g1 hcs fl
      induction cs with
      | nil => rfl
      | cons c r ih => simp at ih ⊢; omega
    have lcs : cs.length = (1 + k).toNat := by simpa [rangeD] using l1
    have lr1 : -LR ≤ 1 + k := by unfold LR; omega
    have lr2 : 1 + k ≤ LR := by unfold LR; omega
    have lm : cs.length ≤ LIM := Nat.le_trans (show cs.length ≤ 999 by omega) (by decide)
    have lim3 : (3 : Nat) ≤ LIM := by decide
    refine ⟨cs, a', i1, ⟨⟨by omega, by omega, hcs⟩, by omega⟩, ?_⟩
    generalize hxs : (cs.map fun c => [c]) = xs at *
    unfold SG DG at s4
    simp [F_l_text, f_l_text, e1, e2, hr, lim3, s4, lr1, lr2, e3, D.ty, gJoin, strsD_map, joinL_nil, fl, sm, lm]
end LL

namespace LL
open PySem PySem.Spec PyProof.Rows L2 DL
def Sig (x : List Nat) : Prop := ∀ c ∈ x, c ∈ SG
def ix (c : Nat) : Nat := SG.idxOf c
theorem ix_ok : ∀ c ∈ SG, indexL SG [c] = some (ix c) := by decide +kernel
theorem ix_lt {c : Nat} (h : c ∈ SG) : ix c < 47 := by
  have := List.idxOf_lt_length_iff.mpr h
  exact this
def csum : Nat → List Nat → Int
  | _, [] => 0
  | k, c :: r => ((k : Int) + 1) * ((ix c : Int) + 1) + csum (k + 1) r
def chk (x : List Nat) : Int := csum 0 x % 997
theorem chk_lt (x : List Nat) : 0 ≤ chk x ∧ chk x < 997 := ⟨Int.emod_nonneg _ (by decide), Int.emod_lt_of_pos _ (by decide)⟩
theorem cMul_r {i j : Int} (h0 : 0 ≤ j) (h1 : j < 1000000) : cMul i j = true := by
  unfold cMul
  rw [Bool.or_eq_true_iff]
  exact .inr (decide_eq_true (by omega))
/-! ### is_text_of -/
/-- what the law's texts and bent texts are made of -/
def AL : List Nat := 126 :: SG
theorem in_SG : ∀ c ∈ AL, inStr [c] SG = decide (c ∈ SG) := by decide +kernel
theorem in_DG : ∀ c ∈ AL, inStr [c] DG = decide (c ∈ DG) := by decide +kernel
theorem all_ok' (p : Nat → Bool) (x : List Nat) : gAll [.lst ((x.map p).map D.bl)] = some (.bl (x.all p)) := by
  simp only [gAll, blsD_map, Option.map_some, List.all_map]
  rfl
theorem is_text_ok (x s : List Nat) (hl : x.length ≤ LIM) (hs : ∀ c ∈ x, inStr [c] s = decide (c ∈ s)) : F_is_text_of [.str x, .str s] = .ok (.val (.bl (x.all fun c => decide (c ∈ s)))) [] := by
  have h := lc_map (vs := [2]) (turn := dTurn (gN 2) dYes (dBin gIn (dVar 2) (dVar 1))) (ρ := [.fz (.str x), .fz (.str s), .no]) (fun d => match d with | .str [c] => .bl (decide (c ∈ s)) | _ => .non) (items := chars x) (acc := []) (fun d hd => by
    unfold chars at hd
    rw [List.mem_map] at hd
    obtain ⟨c, hc, rfl⟩ := hd
    refine ⟨[.fz (.str x), .fz (.str s), .fz (.str [c])], ?_, rfl⟩
    have : gIn (.str [c]) (.str s) = some (.bl (decide (c ∈ s))) := by show some (D.bl (inStr [c] s)) = _; rw [hs c hc]
    simp [this]) (by simpa [chars] using hl)
  have e : (chars x).map (fun d => match d with | .str [c] => .bl (decide (c ∈ s)) | _ => D.non) = (x.map fun c => decide (c ∈ s)).map D.bl := by
    unfold chars
    rw [List.map_map, List.map_map]
    rfl
  have ha := all_ok' (fun c => decide (c ∈ s)) x
  rw [e, List.nil_append] at h
  generalize (x.map fun c => decide (c ∈ s)).map D.bl = L at h ha
  simp [F_is_text_of, f_is_text_of, isi, D.ty, itemsD, h, ha]
theorem is_signed_ok (x : List Nat) (hl : x.length ≤ LIM) (hx : ∀ c ∈ x, c ∈ AL) : F_is_signed [.str x] = .ok (.val (.bl (x.all fun c => decide (c ∈ SG)))) [] := by
  have := is_text_ok x SG hl fun c hc => in_SG c (hx c hc)
  unfold SG at this
  simp [F_is_signed, f_is_signed, c_SIGNS, this, SG]
theorem SG_AL {c : Nat} (h : c ∈ SG) : c ∈ AL := List.mem_cons_of_mem _ h
theorem check_signs_ok (x : List Nat) (hl : x.length ≤ LIM) (hx : Sig x) : F_check_signs [.str x] = .ok (.val .non) [] := by
  have h := is_signed_ok x hl fun c hc => SG_AL (hx c hc)
  have : (x.all fun c => decide (c ∈ SG)) = true := by rw [List.all_eq_true]; exact fun c hc => decide_eq_true (hx c hc)
  rw [this] at h
  simp [F_check_signs, f_check_signs, h]
/-! ### check_of -/
theorem csum_enum : ∀ (x : List Nat) (k : Nat), ((List.range x.length).map fun i => (((k + i : Nat) : Int) + 1) * ((ix (x.getD i 0) : Int) + 1)).sum = csum k x
  | [], k => rfl
  | c :: r, k => by
    rw [List.length_cons, List.range_succ_eq_map, List.map_cons, List.sum_cons, List.map_map]
    have := csum_enum r (k + 1)
    unfold csum
    rw [← this]
    congr 1
    congr 1
    apply List.map_congr_left
    intro i _
    simp
    congr 1
    omega
theorem check_turn (n : Int) (i : Int) (c : Nat) (S : D) (h1 : gIndexS S [.str [c]] = some (.int n)) (h2 : cMul i (n+1) = true) (hd : S.ty = "str") (x : List Nat) : dTurn (gT (gsC (gN 1) (gsC (gN 2) (gs0)))) (dYes) (dBin gMul (dVar 1) (dBin gAdd (dMt "str" gIndexS (dC S) (dCons (dVar 2) (dNil))) (dC (.int 1)))) (.tup [.int i, .str [c]]) [.fz (.str x), .no, .no] = .ok (some (.int (i*(n+1)))) [.fz (.str x), .fz (.int i), .fz (.str [c])] := by
  simp [h1, h2, hd]
theorem l_check_body (n : Int) (j t : Int) (c : Nat) (x : List Nat) (S : D) (h0 : gIx (.str x) (.int j) = some (.str [c])) (h1 : gIndexS S [.str [c]] = some (.int n)) (h2 : cMul (j+1) (n+1) = true) (hd : S.ty = "str") : (sAs (dBin gAdd (dVar 2) (dBin gMul (dBin gAdd (dVar 3) (dC (.int 1))) (dBin gAdd (dMt "str" gIndexS (dVar 1) (dCons (dBin gIx (dVar 0) (dVar 3)) (dNil))) (dC (.int 1))))) (gN 2)) [.fz (.str x), .fz S, .fz (.int t), .fz (.int j)] = .ok .nx [.fz (.str x), .fz S, .fz (.int (t + (j+1)*(n+1))), .fz (.int j)] := by
  simp [-gIx, h0, h1, h2, hd]
theorem check_of_ok (x : List Nat) (hl : x.length ≤ LIM) (hx : Sig x) : F_check_of [.str x] = .ok (.val (.int (chk x))) [] := by
  have h := lc_map (vs := [1, 2]) (turn := dTurn (gT (gsC (gN 1) (gsC (gN 2) (gs0)))) (dYes) (dBin gMul (dVar 1) (dBin gAdd (dMt "str" gIndexS (dC c_SIGNS) (dCons (dVar 2) (dNil))) (dC (.int 1))))) (ρ := [.fz (.str x), .no, .no])
    (fun d => match d with | .tup [.int i, .str [c]] => .int (i * ((ix c : Int) + 1)) | _ => .non) (items := enumD 1 (chars x)) (acc := []) (fun d hd => by
    unfold enumD at hd
    rw [List.mem_map] at hd
    obtain ⟨i, hi, rfl⟩ := hd
    have hi : i < x.length := by simpa [chars] using hi
    have hg : (chars x).getD i .non = .str [x[i]] := by simp [chars, List.getD, hi]
    have hc : x[i] ∈ SG := hx _ (List.getElem_mem _)
    rw [hg]
    refine ⟨[.fz (.str x), .fz (.int (1 + (i : Nat))), .fz (.str [x[i]])], ?_, rfl⟩
    have h1 : gIndexS (.str SG) [.str [x[i]]] = some (.int (ix x[i])) := by show (indexL SG [x[i]]).map _ = _; rw [ix_ok _ hc]; rfl
    have h2 : cMul (1 + (i : Int)) ((ix x[i] : Int) + 1) = true := cMul_r (by omega) (by have := ix_lt hc; omega)
    exact check_turn _ _ _ c_SIGNS h1 h2 rfl x) (by simpa [chars, enumD] using hl)
  have e : (enumD 1 (chars x)).map (fun d => match d with | .tup [.int i, .str [c]] => .int (i * ((ix c : Int) + 1)) | _ => D.non) = ((List.range x.length).map fun i => (((0 + i : Nat) : Int) + 1) * ((ix (x.getD i 0) : Int) + 1)).map D.int := by
    unfold enumD
    rw [List.map_map, List.map_map]
    have hlen : (chars x).length = x.length := by simp [chars]
    rw [hlen]
    apply List.map_congr_left
    intro i hi
    have hi : i < x.length := by simpa using hi
    have hg : (chars x).getD i .non = .str [x[i]] := by simp [chars, List.getD, hi]
    have hg2 : x.getD i 0 = x[i] := by simp [List.getD, hi]
    simp only [Function.comp, hg, hg2]
    congr 2
    omega
  rw [e, List.nil_append] at h
  have hs : gSum [.lst (((List.range x.length).map fun i => (((0 + i : Nat) : Int) + 1) * ((ix (x.getD i 0) : Int) + 1)).map D.int)] = some (.int (csum 0 x)) := by
    simp only [gSum, intsD_map, Option.map_some, csum_enum]
  generalize ((List.range x.length).map fun i => (((0 + i : Nat) : Int) + 1) * ((ix (x.getD i 0) : Int) + 1)).map D.int = L at h hs
  have l1 : -LR ≤ (1 : Int) := by unfold LR; omega
  have l2 : (1 : Int) ≤ LR := by unfold LR; omega
  have h3 : c_MODULUS = .int 997 := rfl
  simp [F_check_of, f_check_of, itemsD, h, hs, l1, l2, h3, chk]
theorem csum_snoc : ∀ (x : List Nat) (k c : Nat), csum k (x ++ [c]) = csum k x + (((k + x.length : Nat) : Int) + 1) * ((ix c : Int) + 1)
  | [], k, c => by simp [csum]
  | d :: r, k, c => by
    have := csum_snoc r (k + 1) c
    simp only [List.cons_append, csum, this, List.length_cons]
    rw [show k + 1 + r.length = k + (r.length + 1) by omega]
    omega
theorem l_check_ok (x : List Nat) (hl : x.length ≤ LIM) (hx : Sig x) : F_l_check [.str x] = .ok (.val (.int (chk x))) [] := by
  obtain ⟨ρ', e1, s', e2⟩ := sl_inv (g := gN 3) (fb := sAs (dBin gAdd (dVar 2) (dBin gMul (dBin gAdd (dVar 3) (dC (.int 1))) (dBin gAdd (dMt "str" gIndexS (dVar 1) (dCons (dBin gIx (dVar 0) (dVar 3)) (dNil))) (dC (.int 1))))) (gN 2))
    (fun k ρ => ∃ r, ρ = [.fz (.str x), .fz (.str SG), .fz (.int (csum 0 (x.take k))), r]) (rangeD 0 x.length) 0 [.fz (.str x), .fz (.str SG), .fz (.int 0), .no] ⟨_, rfl⟩ (by
      rintro i d ρ hd ⟨r, rfl⟩
      unfold rangeD at hd
      rw [List.getElem?_map, Option.map_eq_some_iff] at hd
      obtain ⟨j, hj, rfl⟩ := hd
      obtain ⟨h1, h2⟩ := List.getElem?_eq_some_iff.mp hj
      rw [List.length_range] at h1
      rw [List.getElem_range] at h2
      subst h2
      have hc : x[i] ∈ SG := hx _ (List.getElem_mem _)
      have h3 : gIndexS (.str SG) [.str [x[i]]] = some (.int (ix x[i])) := by show (indexL SG [x[i]]).map _ = _; rw [ix_ok _ hc]; rfl
      have h4 : cMul ((i : Int) + 1) ((ix x[i] : Int) + 1) = true := cMul_r (by omega) (by have := ix_lt hc; omega)
      refine ⟨[.fz (.str x), .fz (.str SG), .fz (.int (csum 0 (x.take (0 + i)))), .fz (.int (0 + (i : Nat)))], [.fz (.str x), .fz (.str SG), .fz (.int (csum 0 (x.take (0 + i)) + ((i : Int) + 1) * ((ix x[i] : Int) + 1))), .fz (.int (0 + (i : Nat)))], rfl, .inl ?_, .fz (.int (0 + (i : Nat))), ?_⟩
      · have h5 : gIx (.str x) (.int (0 + (i : Nat))) = some (.str [x[i]]) := by simp [atI, ixN, h1]
        have h6 : cMul (0 + (i : Int) + 1) ((ix x[i] : Int) + 1) = true := by rw [Int.zero_add]; exact h4
        rw [l_check_body _ _ _ _ x (.str SG) h5 h3 h6 rfl, Int.zero_add]
      · have e : x.take (0 + i + 1) = x.take (0 + i) ++ [x[i]] := by simp
        have hlen : (x.take (0 + i)).length = i := by simp; omega
        rw [e, csum_snoc, hlen]
        simp)
  have hk : x.take (0 + (rangeD 0 x.length).length) = x := by simp [rangeD]
  rw [hk] at e2
  have l1 : -LR ≤ (x.length : Int) := by unfold LR; omega
  have l2 : (x.length : Int) ≤ LR := by unfold LIM at hl; unfold LR; omega
  have l3 : (2 : Nat) ≤ LIM := by decide
  unfold SG at e1 e2
  simp [F_l_check, f_l_check, l1, l2, l3, e1, e2, chk]
end LL

namespace LL
open PySem PySem.Spec PyProof.Rows L2 DL
def d3 (n : Nat) : List Nat := [48 + n / 100, 48 + n / 10 % 10, 48 + n % 10]
def d4 (n : Nat) : List Nat := 48 :: d3 n
theorem z3 : ∀ n : Nat, n < 1000 → zfillL (strL n) 3 = d3 n := by decide +kernel
theorem z4 : ∀ n : Nat, n < 1000 → zfillL (strL n) 4 = d4 n := by decide +kernel
theorem c3 : ∀ n : Nat, n < 1000 → cutL ([48, 48, 48, 48] ++ strL n) (some (-3)) none = d3 n := by decide +kernel
theorem c4 : ∀ n : Nat, n < 1000 → cutL ([48, 48, 48, 48] ++ strL n) (some (-4)) none = d4 n := by decide +kernel
theorem so : ∀ n : Nat, n < 1000 → okS (strL n) = true ∧ (strL n).length ≤ 3 := by decide +kernel
theorem o3 : ∀ n : Nat, n < 1000 → okS (d3 n) = true ∧ okS (d4 n) = true := by decide +kernel
theorem lg {n : Nat} (h : n < 1000) : ((n : Int)).natAbs.log2 < 1920 := Nat.lt_of_le_of_lt (Nat.log2_le_self _) (by simp; omega)
theorem gStr_n {n : Nat} (h : n < 1000) : gStr [.int n] = some (.str (strL n)) := by
  simp [gStr, (so n h).1]
  exact lg h
theorem digits3_ok {n : Nat} (h : n < 1000) : F_l_digits [.int n, .int 3] = .ok (.val (.str (d3 n))) [] := by
  have h1 := gStr_n h
  have h2 : 4 + (strL n).length ≤ LIM := Nat.le_trans (show 4 + (strL n).length ≤ 7 by have := (so n h).2; omega) (by decide)
  have h3 := c3 n h
  simp only [List.cons_append, List.nil_append] at h3
  simp [F_l_digits, f_l_digits, h1, h2, h3, gSl]
theorem digits4_ok {n : Nat} (h : n < 1000) : F_l_digits [.int n, .int 4] = .ok (.val (.str (d4 n))) [] := by
  have h1 := gStr_n h
  have h2 : 4 + (strL n).length ≤ LIM := Nat.le_trans (show 4 + (strL n).length ≤ 7 by have := (so n h).2; omega) (by decide)
  have h3 := c4 n h
  simp only [List.cons_append, List.nil_append] at h3
  simp [F_l_digits, f_l_digits, h1, h2, h3, gSl]
/-- a frame -/
def ck (x : List Nat) : Nat := (chk x).toNat
theorem ck_eq (x : List Nat) : ((ck x : Nat) : Int) = chk x := Int.toNat_of_nonneg (chk_lt x).1
theorem ck_lt (x : List Nat) : ck x < 997 := by have := (chk_lt x).2; have := ck_eq x; omega
def frm (x : List Nat) : List Nat := d4 x.length ++ d3 (ck x) ++ x
theorem d3_len (n : Nat) : (d3 n).length = 3 := rfl
theorem d4_len (n : Nat) : (d4 n).length = 4 := rfl
theorem l_frame_ok (x : List Nat) (hx : Txt x) : F_l_frame [.str x] = .ok (.val (.str (frm x))) [] := by
  have hl : x.length ≤ LIM := Nat.le_trans hx.2.1 (by decide)
  have h1 := l_check_ok x hl hx.2.2
  have h2 := digits4_ok (n := x.length) (by have := hx.2.1; omega)
  have h3 := digits3_ok (n := ck x) (by have := ck_lt x; omega)
  rw [ck_eq] at h3
  have l1 : 4 + 3 ≤ LIM := by decide
  have l2 : 7 + x.length ≤ LIM := Nat.le_trans (show 7 + x.length ≤ 1006 by have := hx.2.1; omega) (by decide)
  have l3 : (d4 x.length).length + (d3 (ck x)).length ≤ LIM := by rw [d3_len, d4_len]; exact l1
  have l4 : (d4 x.length).length + (d3 (ck x)).length + x.length ≤ LIM := by rw [d3_len, d4_len]; omega
  simp [F_l_frame, f_l_frame, h1, h2, h3, l3, l4, frm]
theorem frame_of_ok (x : List Nat) (hx : Txt x) : F_frame_of [.str x] = .ok (.val (.str (frm x))) [] := by
  have hl : x.length ≤ LIM := Nat.le_trans hx.2.1 (by decide)
  have hn : x.length < 1000 := by have := hx.2.1; omega
  have hk : ck x < 1000 := by have := ck_lt x; omega
  have h1 := check_of_ok x hl hx.2.2
  have h2 := gStr_n hn
  have h3 := gStr_n hk
  rw [ck_eq] at h3
  have p4 : PadOk 4 = true := by decide
  have p3 : PadOk 3 = true := by decide
  have h4 : gZfill (.str (strL x.length)) [c_LENGTH_DIGITS] = some (.str (d4 x.length)) := by
    simp [gZfill, c_LENGTH_DIGITS, p4, z4 _ hn, (o3 _ hn).2]
  have h5 : gZfill (.str (strL (chk x))) [c_CHECK_DIGITS] = some (.str (d3 (ck x))) := by
    have e := z3 _ hk
    rw [ck_eq] at e
    simp [gZfill, c_CHECK_DIGITS, p3, e, (o3 _ hk).1]
  have l1 : 4 + 3 ≤ LIM := by decide
  have l2 : 7 + x.length ≤ LIM := Nat.le_trans (show 7 + x.length ≤ 1006 by have := hx.2.1; omega) (by decide)
  have l3 : (d4 x.length).length + (d3 (ck x)).length ≤ LIM := by rw [d3_len, d4_len]; exact l1
  have l4 : (d4 x.length).length + (d3 (ck x)).length + x.length ≤ LIM := by rw [d3_len, d4_len]; omega
  simp [F_frame_of, f_frame_of, h1, h2, h3, h4, h5, l3, l4, frm, D.ty]
theorem frame_ok (x : List Nat) (hx : Txt x) : F_frame [.str x] = .ok (.val (.str (frm x))) [] := by
  have hl : x.length ≤ LIM := Nat.le_trans hx.2.1 (by decide)
  have h1 := check_signs_ok x hl hx.2.2
  have h2 := frame_of_ok x hx
  have a1 : (1 : Int) ≤ x.length := by have := hx.1; omega
  have a2 : (x.length : Int) ≤ 999 := by have := hx.2.1; omega
  have a3 : c_LONGEST_FRAMED = .int 999 := rfl
  simp [F_frame, f_frame, h1, h2, a1, a2, a3]
end LL

namespace LL
open PySem PySem.Spec PyProof.Rows L2 DL
/-! ### the law's compare -/
/-- what the law compares: no script, no bool needed -/
theorem same_int (n : Nat) (i : Int) : FF_l_same (n + 1) [.int i, .int i] = .ok (.val (.bl true)) [] := by
  simp [FF_l_same, f_l_same, isi, D.ty]
theorem same_str (n : Nat) (x : List Nat) : FF_l_same (n + 1) [.str x, .str x] = .ok (.val (.bl true)) [] := by
  simp [FF_l_same, f_l_same, isi, D.ty]
theorem same_seq (n : Nat) (l : List D) (mk : List D → D) (hm : mk = D.tup ∨ mk = D.lst) (hl : l.length ≤ 1000) (h : ∀ d ∈ l, FF_l_same n [d, d] = .ok (.val (.bl true)) []) : FF_l_same (n + 1) [mk l, mk l] = .ok (.val (.bl true)) [] := by
  have hr : (rangeD 0 l.length).length ≤ LIM := by simp [rangeD]; exact Nat.le_trans hl (by decide)
  have key := lc_map (vs := [2]) (turn := dTurn (gN 2) (dYes) (dCal 2 (FF_l_same n) (dCons (dBin gIx (dVar 0) (dVar 2)) (dCons (dBin gIx (dVar 1) (dVar 2)) (dNil))))) (ρ := [.fz (mk l), .fz (mk l), .no]) (fun _ => .bl true) (items := rangeD 0 l.length) (acc := []) (fun d hd => by
    unfold rangeD at hd
    rw [List.mem_map] at hd
    obtain ⟨i, hi, rfl⟩ := hd
    have hi : i < l.length := by simpa using hi
    have e := h l[i] (List.getElem_mem _)
    have g : gIx (mk l) (.int (0 + (i : Nat))) = some l[i] := by rcases hm with rfl | rfl <;> simp [atI, ixN, hi]
    refine ⟨[.fz (mk l), .fz (mk l), .fz (.int (0 + (i : Nat)))], ?_, rfl⟩
    generalize (0 + ((i : Nat) : Int)) = j at g ⊢
    simp [-gIx, g, e]) (by simpa using hr)
  have e2 : (rangeD 0 l.length).map (fun _ => D.bl true) = (List.replicate l.length true).map D.bl := by simp [rangeD, Function.comp_def, List.map_const']
  rw [List.nil_append, e2] at key
  have ga : gAll [.lst ((List.replicate l.length true).map D.bl)] = some (.bl true) := by
    simp only [gAll, blsD_map, Option.map_some]
    congr 2
    rw [List.all_eq_true]; intro b hb; exact (List.mem_replicate.mp hb).2
  generalize (List.replicate l.length true).map D.bl = L at key ga
  have l1 : -LR ≤ (l.length : Int) := by unfold LR; omega
  have l2 : (l.length : Int) ≤ LR := by unfold LR; omega
  rcases hm with rfl | rfl <;> simp [FF_l_same, f_l_same, isi, D.ty, l1, l2, key, ga]
/-! ### slices -/
theorem cutL_ab {α : Type} (x : List α) {a b : Nat} (h : a ≤ b) : cutL x (some (a : Int)) (some (b : Int)) = (x.drop a).take (b - a) := by
  unfold cutL
  rw [HT.sIx_nat, HT.sIx_nat]
  by_cases ha : a ≤ x.length
  · rw [Nat.min_eq_left ha]
    by_cases hb : b ≤ x.length
    · rw [Nat.min_eq_left hb]
    · rw [Nat.min_eq_right (by omega), List.take_of_length_le (by simp), List.take_of_length_le (by simp; omega)]
  · rw [Nat.min_eq_right (by omega), Nat.min_eq_right (by omega), List.drop_of_length_le (Nat.le_refl _), List.drop_of_length_le (by omega)]; simp
theorem cutL_b {α : Type} (x : List α) (b : Nat) : cutL x none (some (b : Int)) = x.take b := by
  unfold cutL
  rw [HT.sIx_nat, HT.sIx_none]
  by_cases hb : b ≤ x.length
  · rw [Nat.min_eq_left hb]; simp
  · rw [Nat.min_eq_right (by omega), List.take_of_length_le (by simp), List.take_of_length_le (by omega)]; simp
theorem cutL_a {α : Type} (x : List α) (a : Nat) : cutL x (some (a : Int)) none = x.drop a := by
  unfold cutL
  rw [HT.sIx_nat, HT.sIx_none]
  by_cases ha : a ≤ x.length
  · rw [Nat.min_eq_left ha, List.take_of_length_le (by simp)]
  · rw [Nat.min_eq_right (by omega), List.drop_of_length_le (Nat.le_refl _), List.drop_of_length_le (by omega)]; simp
/-! ### numbers read -/
theorem DG_dig {c : Nat} (h : c ∈ DG) : 48 ≤ c ∧ c ≤ 57 := by
  have : ∀ c ∈ DG, 48 ≤ c ∧ c ≤ 57 := by decide
  exact this c h
theorem gInt_dig {x : List Nat} (hx : ∀ c ∈ x, c ∈ DG) (h1 : x ≠ []) (h2 : x.length ≤ 640) : gInt [.str x] = some (.int ((NumText.digitsVal x : Nat) : Int)) := by
  have := PySem.intText_digits (x := toS x) (by rw [toS_list]; exact fun c hc => DG_dig (hx c hc)) (by rw [toS_list]; exact h1) (by rw [toS_len]; omega)
  rw [toS_list] at this
  simp [gInt, h2, intL, this]
/-! ### one frame read -/
def hd (x : List Nat) (e : Nat) : List Nat := (x.drop e).take 7
def sz (x : List Nat) (e : Nat) : Nat := NumText.digitsVal ((hd x e).take 4)
def tx (x : List Nat) (e : Nat) : List Nat := (x.drop (e + 7)).take (sz x e)
def stepP (x : List Nat) (e : Nat) : Option (List Nat) :=
  if (hd x e).length < 7 ∨ ((hd x e).all fun c => decide (c ∈ DG)) = false then none
  else if sz x e = 0 ∨ (tx x e).length < sz x e ∨ ((tx x e).all fun c => decide (c ∈ SG)) = false then none
  else if chk (tx x e) = NumText.digitsVal ((hd x e).drop 4) then some (tx x e) else none
def oD : Option (List Nat) → D
  | some t => .str t
  | none => .non
theorem text_at_ok (x : List Nat) (e : Nat) (hl : x.length ≤ LIM) (hx : ∀ c ∈ x, c ∈ AL) : F_text_at [.str x, .int e] = .ok (.val (oD (stepP x e))) [] := by
  have hmem : ∀ c ∈ hd x e, c ∈ AL := fun c hc => hx c (List.mem_of_mem_drop (List.mem_of_mem_take hc))
  have hlen : (hd x e).length ≤ 7 := by unfold hd; rw [List.length_take]; omega
  have t1 := is_text_ok (hd x e) DG (Nat.le_trans hlen (by decide)) fun c hc => in_DG c (hmem c hc)
  have k1 : cutL x (some (e : Int)) (some ((e : Int) + 7)) = hd x e := by
    have := cutL_ab x (a := e) (b := e + 7) (by omega)
    rw [show ((e + 7 : Nat) : Int) = (e : Int) + 7 by omega] at this
    rw [this, hd]; congr 1; omega
  have cH : c_HEAD = .int 7 := rfl
  have cD : c_DIGITS = .str DG := rfl
  have cS : c_SIGNS = .str SG := rfl
  have cL : c_LENGTH_DIGITS = .int 4 := rfl
  by_cases h1 : (hd x e).length < 7
  · have h1' : ((hd x e).length : Int) < 7 := by omega
    simp [F_text_at, f_text_at, gSl, k1, cH, h1', stepP, h1, oD]
  · have h1' : ¬ ((hd x e).length : Int) < 7 := by omega
    by_cases h2 : ((hd x e).all fun c => decide (c ∈ DG)) = true
    · rw [h2] at t1
      have hall : ∀ c ∈ hd x e, c ∈ DG := fun c hc => of_decide_eq_true (List.all_eq_true.mp h2 c hc)
      have l7 : (hd x e).length = 7 := by omega
      have n1 := gInt_dig (x := (hd x e).take 4) (fun c hc => hall c (List.mem_of_mem_take hc)) (List.ne_nil_of_length_pos (by rw [List.length_take]; omega)) (by rw [List.length_take]; omega)
      have n2 := gInt_dig (x := (hd x e).drop 4) (fun c hc => hall c (List.mem_of_mem_drop hc)) (List.ne_nil_of_length_pos (by rw [List.length_drop]; omega)) (by rw [List.length_drop]; omega)
      have k2 : cutL (hd x e) none (some 4) = (hd x e).take 4 := cutL_b _ 4
      have k3 : cutL (hd x e) (some 4) none = (hd x e).drop 4 := cutL_a _ 4
      have k4 : cutL x (some ((e : Int) + 7)) (some ((e : Int) + 7 + (NumText.digitsVal ((hd x e).take 4) : Nat))) = tx x e := by
        have := cutL_ab x (a := e + 7) (b := e + 7 + sz x e) (by omega)
        rw [show ((e + 7 : Nat) : Int) = (e : Int) + 7 by omega, show ((e + 7 + sz x e : Nat) : Int) = (e : Int) + 7 + (sz x e : Nat) by omega] at this
        unfold sz at this
        rw [this, tx, sz]; congr 1; omega
      have tm : ∀ c ∈ tx x e, c ∈ AL := fun c hc => hx c (List.mem_of_mem_drop (List.mem_of_mem_take hc))
      have tl : (tx x e).length ≤ LIM := by
        have a1 : (tx x e).length ≤ (x.drop (e + 7)).length := List.length_take_le' ..
        rw [List.length_drop] at a1
        omega
      have t2 := is_text_ok (tx x e) SG tl fun c hc => in_SG c (tm c hc)
      have hs : NumText.digitsVal ((hd x e).take 4) = sz x e := rfl
      rw [hs] at n1 k4
      by_cases h3 : sz x e = 0
      · have n1' := n1
        rw [h3] at n1' k4
        have k4' : cutL x (some ((e : Int) + 7)) (some ((e : Int) + 7)) = tx x e := by simpa using k4
        simp [-gInt, F_text_at, f_text_at, gSl, k1, k2, k3, cH, cD, cL, h1', h2, t1, n1', n2, k4', stepP, h1, h3, oD]
      · have h3' : ¬ ((sz x e : Nat) : Int) = 0 := by omega
        by_cases h4 : (tx x e).length < sz x e
        · have h4' : ((tx x e).length : Int) < (sz x e : Nat) := by omega
          simp [-gInt, F_text_at, f_text_at, gSl, k1, k2, k3, cH, cD, cL, h1', h2, t1, n1, n2, k4, stepP, h1, h3, h4, oD]
        · have h4' : ¬ ((tx x e).length : Int) < (sz x e : Nat) := by omega
          by_cases h5 : ((tx x e).all fun c => decide (c ∈ SG)) = true
          · rw [h5] at t2
            have c1 := check_of_ok (tx x e) tl fun c hc => of_decide_eq_true (List.all_eq_true.mp h5 c hc)
            by_cases h6 : chk (tx x e) = NumText.digitsVal ((hd x e).drop 4)
            · simp [-gInt, F_text_at, f_text_at, gSl, k1, k2, k3, cH, cD, cL, cS, h1', h2, t1, n1, n2, k4, t2, c1, stepP, h1, h3, h4, h5, h6, oD]
            · simp [-gInt, F_text_at, f_text_at, gSl, k1, k2, k3, cH, cD, cL, cS, h1', h2, t1, n1, n2, k4, t2, c1, stepP, h1, h3, h4, h5, h6, oD]
          · have h5' : ((tx x e).all fun c => decide (c ∈ SG)) = false := by simpa using h5
            rw [h5'] at t2
            simp [-gInt, F_text_at, f_text_at, gSl, k1, k2, k3, cH, cD, cL, cS, h1', h2, t1, n1, n2, k4, t2, stepP, h1, h3, h4, h5', oD]
    · have h2' : ((hd x e).all fun c => decide (c ∈ DG)) = false := by simpa using h2
      rw [h2'] at t1
      simp only [F_text_at, f_text_at, dFun0]
      simp [gSl, k1, cH, cD, h1', stepP, h1, h2', t1, oD]
end LL

namespace LL
open PySem PySem.Spec PyProof.Rows L2 DL
def parseF : Nat → List Nat → Nat → List (List Nat) × Nat
  | 0, _, e => ([], e)
  | n + 1, x, e => match stepP x e with
    | none => ([], e)
    | some t => (t :: (parseF n x (e + 7 + t.length)).1, (parseF n x (e + 7 + t.length)).2)
theorem stepP_some {x : List Nat} {e : Nat} {t : List Nat} (h : stepP x e = some t) : 1 ≤ t.length ∧ e + 7 + t.length ≤ x.length := by
  unfold stepP at h
  split at h
  · cases h
  · split at h
    · cases h
    · rename_i h2
      split at h
      · cases h
        have h3 : sz x e ≠ 0 := fun z => h2 (.inl z)
        have h4 : ¬ (tx x e).length < sz x e := fun z => h2 (.inr (.inl z))
        have h5 : (tx x e).length ≤ (x.drop (e + 7)).length := List.length_take_le' ..
        rw [List.length_drop] at h5
        omega
      · cases h
theorem fb_body (x t : List Nat) (found : List D) (e : Nat) (hl : x.length ≤ LIM) (hx : ∀ c ∈ x, c ∈ AL) (hf : found.length < LIM) :
    (sSeq (sEx (dApp 1 (dVar 3))) (sSeq (sAs (dBin gAdd (dBin gAdd (dVar 2) (dC c_HEAD)) (dCall gLen (dCons (dVar 3) (dNil)))) (gN 2)) (sAs (dCal 2 F_text_at (dCons (dVar 0) (dCons (dVar 2) (dNil)))) (gN 3)))) [.fz (.str x), .ow found, .fz (.int e), .fz (.str t)]
      = .ok .nx [.fz (.str x), .ow (found ++ [.str t]), .fz (.int ((e + 7 + t.length : Nat) : Int)), .fz (oD (stepP x (e + 7 + t.length)))] := by
  have h := text_at_ok x (e + 7 + t.length) hl hx
  have cH : c_HEAD = .int 7 := rfl
  have ce : ((e + 7 + t.length : Nat) : Int) = (e : Int) + 7 + t.length := by omega
  rw [ce] at h ⊢
  simp [hf, cH, h]
theorem fb_loop (x : List Nat) (hl : x.length ≤ LIM) (hx : ∀ c ∈ x, c ∈ AL) : ∀ (m n e : Nat) (found : List D), x.length < e + m → m ≤ n → found.length + m ≤ LIM →
    sWhile (dBo (dBin (gNot gIs) (dVar 3) (dC .non))) (sSeq (sEx (dApp 1 (dVar 3))) (sSeq (sAs (dBin gAdd (dBin gAdd (dVar 2) (dC c_HEAD)) (dCall gLen (dCons (dVar 3) (dNil)))) (gN 2)) (sAs (dCal 2 F_text_at (dCons (dVar 0) (dCons (dVar 2) (dNil)))) (gN 3)))) (n + 1) [.fz (.str x), .ow found, .fz (.int e), .fz (oD (stepP x e))]
      = .ok .nx [.fz (.str x), .ow (found ++ (parseF m x e).1.map D.str), .fz (.int (parseF m x e).2), .fz .non]
  | m, n, e, found, h1, h2, h3 => by
    cases hs : stepP x e with
    | none =>
      have hp : parseF m x e = ([], e) := by cases m <;> simp [parseF, hs]
      rw [hp]
      unfold sWhile
      simp [oD]
    | some t =>
      obtain ⟨t1, t2⟩ := stepP_some hs
      cases m with
      | zero => omega
      | succ m =>
        cases n with
        | zero => omega
        | succ n =>
          have ih := fb_loop x hl hx m n (e + 7 + t.length) (found ++ [.str t]) (by omega) (by omega) (by simp; omega)
          have hb := fb_body x t found e hl hx (by omega)
          have hp : parseF (m + 1) x e = (t :: (parseF m x (e + 7 + t.length)).1, (parseF m x (e + 7 + t.length)).2) := by simp [parseF, hs]
          rw [hp]
          rw [sWhile]
          have ht : (dBo (dBin (gNot gIs) (dVar 3) (dC .non))) [.fz (.str x), .ow found, .fz (.int e), .fz (oD (some t))] = .ok true [.fz (.str x), .ow found, .fz (.int e), .fz (oD (some t))] := by simp [oD]
          rw [ht]
          simp only [Res.bind, if_true]
          have ho : oD (some t) = .str t := rfl
          rw [ho, hb]
          simp only []
          rw [ih]
          simp
theorem frames_by_ok (x : List Nat) (hl : x.length + 2 ≤ LIM) (hx : ∀ c ∈ x, c ∈ AL) : F_frames_by [.str x] = .ok (.val (.tup [.lst ((parseF (x.length + 1) x 0).1.map D.str), .int (parseF (x.length + 1) x 0).2])) [] := by
  have h0 := text_at_ok x 0 (by omega) hx
  have hw := fb_loop x (by omega) hx (x.length + 1) (LIM - 1) 0 [] (by omega) (by omega) (by simp; omega)
  have hL : LIM - 1 + 1 = LIM := by decide
  rw [hL] at hw
  rw [List.nil_append] at hw
  have l2 : (2 : Nat) ≤ LIM := by decide
  have l0 : (0 : Nat) ≤ LIM := Nat.zero_le _
  simp at h0 hw
  simp [F_frames_by, f_frames_by, h0, hw, l2, l0]
theorem frames_in_ok (x : List Nat) (hl : x.length + 2 ≤ LIM) (hx : ∀ c ∈ x, c ∈ AL) : F_frames_in [.str x] = .ok (.val (.tup [.tup ((parseF (x.length + 1) x 0).1.map D.str), .int (parseF (x.length + 1) x 0).2])) [] := by
  have h := frames_by_ok x hl hx
  have l2 : (2 : Nat) ≤ LIM := by decide
  have c0 : F_check_text [.str x] = .ok (.val .non) [] := by simp [F_check_text, f_check_text, isi, D.ty]
  simp [F_frames_in, f_frames_in, c0, h, gTuple, l2]
end LL

namespace LL
open PySem PySem.Spec PyProof.Rows L2 DL
theorem gNe_nil (L : List (List Nat)) : gNe (.lst (L.map D.str)) (.lst []) = some (.bl (!decide (L = []))) := by
  have h1 : D.dle 62 (.lst (L.map D.str)) = true := by unfold D.dle; exact dles_str 61 L
  have h2 : D.dle 62 (.lst []) = true := by simp [D.dle, D.dles]
  unfold gNe
  rw [h1, h2]
  cases L <;> simp [D.eqv, D.eqvs]
theorem bad_loop (y s : List Nat) (hl : y.length ≤ LIM) (hs : ∀ c ∈ y, inStr [c] s = decide (c ∈ s)) (a0 a1 a2 a3 a4 a6 a7 : Sl) :
    lcLoop [5] (dTurn (gN 5) (dBo (dBin (gNot gIn) (dVar 5) (dC (.str s)))) (dVar 5)) (chars y) [] [a0, a1, a2, a3, a4, .no, a6, a7] = .ok (((y.filter fun c => !decide (c ∈ s)).map fun c => [c]).map D.str) [a0, a1, a2, a3, a4, .no, a6, a7] := by
  have h := lc_filter (vs := [5]) (turn := dTurn (gN 5) (dBo (dBin (gNot gIn) (dVar 5) (dC (.str s)))) (dVar 5)) (ρ := [a0, a1, a2, a3, a4, .no, a6, a7]) (fun d => match d with | .str [c] => !decide (c ∈ s) | _ => false) id (items := chars y) (acc := []) (fun d hd => by
    unfold chars at hd
    rw [List.mem_map] at hd
    obtain ⟨c, hc, rfl⟩ := hd
    refine ⟨[a0, a1, a2, a3, a4, .fz (.str [c]), a6, a7], ?_, rfl⟩
    have hg : gIn (.str [c]) (.str s) = some (.bl (decide (c ∈ s))) := by show some (D.bl (inStr [c] s)) = _; rw [hs c hc]
    by_cases hc2 : c ∈ s <;> simp [hg, hc2]) (by simpa [chars] using hl)
  rw [h, List.nil_append]
  congr 1
  unfold chars
  rw [List.filter_map, List.map_id, List.map_map]
  rfl
theorem filter_nil (y s : List Nat) : ((y.filter fun c => !decide (c ∈ s)).map fun c => [c]) = [] ↔ (y.all fun c => decide (c ∈ s)) = true := by
  rw [List.map_eq_nil_iff, List.filter_eq_nil_iff, List.all_eq_true]
  simp
theorem d3_val {L : List Nat} (h : L.length = 3) (hd : ∀ c ∈ L, c ∈ DG) {n : Nat} (hn : n < 1000) : d3 n = L ↔ NumText.digitsVal L = n := by
  match L, h with
  | [a, b, c], _ =>
    have ha := DG_dig (hd a (by simp))
    have hb := DG_dig (hd b (by simp))
    have hc := DG_dig (hd c (by simp))
    have e : NumText.digitsVal [a, b, c] = (a - 48) * 100 + (b - 48) * 10 + (c - 48) := by
      simp [NumText.digitsVal]; omega
    rw [e]
    simp only [d3, List.cons.injEq, and_true]
    omega
def fLF : En → Res Fl :=
  (sSeq (sAs (dSl (dVar 0) (dPt (dVar 2)) (dPt (dBin gAdd (dVar 2) (dC (.int 7))))) (gN 4))
  (sSeq (sIf (dOr (dBo (dBin gLt (dCall gLen (dCons (dVar 4) (dNil))) (dC (.int 7)))) (dBo (dBin gNe (dFz (dLc [5] (dIt (dVar 4)) (gN 5) (dBo (dBin (gNot gIn) (dVar 5) (dC (.str DG)))) (dVar 5))) (dFz (dLst (dNil)))))) (sRet (dTup (dCons (dVar 1) (dCons (dVar 2) (dNil))))) (sNx))
  (sSeq (sAs (dCall gInt (dCons (dSl (dVar 4) (dNP) (dPt (dC (.int 4)))) (dNil))) (gN 6))
  (sSeq (sAs (dSl (dVar 0) (dPt (dBin gAdd (dVar 2) (dC (.int 7)))) (dPt (dBin gAdd (dBin gAdd (dVar 2) (dC (.int 7))) (dVar 6)))) (gN 7))
  (sSeq (sIf (dOr (dBo (dBin gEq (dVar 6) (dC (.int 0)))) (dOr (dBo (dBin gLt (dCall gLen (dCons (dVar 7) (dNil))) (dVar 6))) (dBo (dBin gNe (dFz (dLc [5] (dIt (dVar 7)) (gN 5) (dBo (dBin (gNot gIn) (dVar 5) (dC (.str SG)))) (dVar 5))) (dFz (dLst (dNil))))))) (sRet (dTup (dCons (dVar 1) (dCons (dVar 2) (dNil))))) (sNx))
  (sSeq (sIf (dBo (dBin gNe (dCal 2 F_l_digits (dCons (dCal 1 F_l_check (dCons (dVar 7) (dNil))) (dCons (dC (.int 3)) (dNil)))) (dSl (dVar 4) (dPt (dC (.int 4))) (dNP)))) (sRet (dTup (dCons (dVar 1) (dCons (dVar 2) (dNil))))) (sNx))
  (sPar [1, 2] (mVl (dBin gAdd (dVar 1) (dTup (dCons (dVar 7) (dNil)))) (mVl (dBin gAdd (dBin gAdd (dVar 2) (dC (.int 7))) (dVar 6)) (mNil))))))))))
theorem fLF_eq : f_l_frames_in = sSeq (sAs (dTup (dCons (dTup (dNil)) (dCons (dC (.int 0)) (dNil)))) (gT (gsC (gN 1) (gsC (gN 2) (gs0))))) (sSeq (sFor (dR1 (dCons (dCall gLen (dCons (dVar 0) (dNil))) (dNil))) (gN 3) fLF) (sRet (dTup (dCons (dVar 1) (dCons (dVar 2) (dNil)))))) := rfl
theorem lf_body (x : List Nat) (hl : x.length ≤ LIM) (hx : ∀ c ∈ x, c ∈ AL) (acc : List D) (e : Nat) (a3 a4 a6 a7 : Sl) (ha : acc.length < LIM) :
    match stepP x e with
    | none => ∃ ρ2, fLF [.fz (.str x), .fz (.tup acc), .fz (.int e), a3, a4, .no, a6, a7] = .ok (.rt (.tup [.tup acc, .int e])) ρ2
    | some t => ∃ b4 b6 b7, fLF [.fz (.str x), .fz (.tup acc), .fz (.int e), a3, a4, .no, a6, a7] = .ok .nx [.fz (.str x), .fz (.tup (acc ++ [.str t])), .fz (.int ((e + 7 + t.length : Nat) : Int)), a3, b4, .no, b6, b7] := by
  have hmem : ∀ c ∈ hd x e, c ∈ AL := fun c hc => hx c (List.mem_of_mem_drop (List.mem_of_mem_take hc))
  have hlen : (hd x e).length ≤ 7 := by unfold hd; rw [List.length_take]; omega
  have k1 : cutL x (some (e : Int)) (some ((e : Int) + 7)) = hd x e := by
    have := cutL_ab x (a := e) (b := e + 7) (by omega)
    rw [show ((e + 7 : Nat) : Int) = (e : Int) + 7 by omega] at this
    rw [this, hd]; congr 1; omega
  have b1 := bad_loop (hd x e) DG (Nat.le_trans hlen (by decide)) (fun c hc => in_DG c (hmem c hc)) (.fz (.str x)) (.fz (.tup acc)) (.fz (.int e)) a3 (.fz (.str (hd x e))) a6 a7
  have l2 : (2 : Nat) ≤ LIM := by decide
  have l1 : (1 : Nat) ≤ LIM := by decide
  have f1 := filter_nil (hd x e) DG
  generalize ((hd x e).filter fun c => !decide (c ∈ DG)).map (fun c => [c]) = B1 at b1 f1
  have g1 := gNe_nil B1
  generalize hB : B1.map D.str = C1 at b1 g1
  by_cases h1 : (hd x e).length < 7
  · have h1' : ((hd x e).length : Int) < 7 := by omega
    have hs : stepP x e = none := by simp [stepP, h1]
    rw [hs]
    exact ⟨[.fz (.str x), .fz (.tup acc), .fz (.int e), a3, .fz (.str (hd x e)), .no, a6, a7], by simp [fLF, gSl, k1, h1', l2]⟩
  · have h1' : ¬ ((hd x e).length : Int) < 7 := by omega
    by_cases h2 : ((hd x e).all fun c => decide (c ∈ DG)) = true
    · have hall : ∀ c ∈ hd x e, c ∈ DG := fun c hc => of_decide_eq_true (List.all_eq_true.mp h2 c hc)
      have l7 : (hd x e).length = 7 := by omega
      have hB1 : B1 = [] := f1.mpr h2
      have n1 := gInt_dig (x := (hd x e).take 4) (fun c hc => hall c (List.mem_of_mem_take hc)) (List.ne_nil_of_length_pos (by rw [List.length_take]; omega)) (by rw [List.length_take]; omega)
      have k2 : cutL (hd x e) none (some 4) = (hd x e).take 4 := cutL_b _ 4
      have k3 : cutL (hd x e) (some 4) none = (hd x e).drop 4 := cutL_a _ 4
      have k4 : cutL x (some ((e : Int) + 7)) (some ((e : Int) + 7 + (NumText.digitsVal ((hd x e).take 4) : Nat))) = tx x e := by
        have := cutL_ab x (a := e + 7) (b := e + 7 + sz x e) (by omega)
        rw [show ((e + 7 : Nat) : Int) = (e : Int) + 7 by omega, show ((e + 7 + sz x e : Nat) : Int) = (e : Int) + 7 + (sz x e : Nat) by omega] at this
        unfold sz at this
        rw [this, tx, sz]; congr 1; omega
      have tm : ∀ c ∈ tx x e, c ∈ AL := fun c hc => hx c (List.mem_of_mem_drop (List.mem_of_mem_take hc))
      have tl : (tx x e).length ≤ LIM := by
        have a1 : (tx x e).length ≤ (x.drop (e + 7)).length := List.length_take_le' ..
        rw [List.length_drop] at a1
        omega
      have hs : NumText.digitsVal ((hd x e).take 4) = sz x e := rfl
      rw [hs] at n1 k4
      have b2 := bad_loop (tx x e) SG tl (fun c hc => in_SG c (tm c hc)) (.fz (.str x)) (.fz (.tup acc)) (.fz (.int e)) a3 (.fz (.str (hd x e))) (.fz (.int (sz x e))) (.fz (.str (tx x e)))
      have f2 := filter_nil (tx x e) SG
      generalize ((tx x e).filter fun c => !decide (c ∈ SG)).map (fun c => [c]) = B2 at b2 f2
      have g2 := gNe_nil B2
      generalize hB2 : B2.map D.str = C2 at b2 g2
      by_cases h3 : sz x e = 0
      · have hs : stepP x e = none := by unfold stepP; rw [if_neg (by simp [h1, h2]), if_pos (.inl h3)]
        rw [hs]
        have n1' := n1
        rw [h3] at n1' k4
        have k4' : cutL x (some ((e : Int) + 7)) (some ((e : Int) + 7)) = tx x e := by simpa using k4
        refine ⟨[.fz (.str x), .fz (.tup acc), .fz (.int e), a3, .fz (.str (hd x e)), .no, .fz (.int 0), .fz (.str (tx x e))], ?_⟩
        simp [-gInt, fLF, gSl, k1, h1', itemsD, b1, g1, hB1, l2, k2, n1', k4']
      · have h3' : ¬ ((sz x e : Nat) : Int) = 0 := by omega
        by_cases h4 : (tx x e).length < sz x e
        · have h4' : ((tx x e).length : Int) < (sz x e : Nat) := by omega
          have hs : stepP x e = none := by unfold stepP; rw [if_neg (by simp [h1, h2]), if_pos (.inr (.inl h4))]
          rw [hs]
          refine ⟨[.fz (.str x), .fz (.tup acc), .fz (.int e), a3, .fz (.str (hd x e)), .no, .fz (.int (sz x e)), .fz (.str (tx x e))], ?_⟩
          simp [-gInt, fLF, gSl, k1, h1', itemsD, b1, g1, hB1, l2, k2, n1, k4, h3, h4]
        · have h4' : ¬ ((tx x e).length : Int) < (sz x e : Nat) := by omega
          by_cases h5 : ((tx x e).all fun c => decide (c ∈ SG)) = true
          · have hB2' : B2 = [] := f2.mpr h5
            have c1 := l_check_ok (tx x e) tl fun c hc => of_decide_eq_true (List.all_eq_true.mp h5 c hc)
            have c2 := digits3_ok (n := ck (tx x e)) (by have := ck_lt (tx x e); omega)
            rw [ck_eq] at c2
            have dv := d3_val (L := (hd x e).drop 4) (by rw [List.length_drop]; omega) (fun c hc => hall c (List.mem_of_mem_drop hc)) (n := ck (tx x e)) (by have := ck_lt (tx x e); omega)
            have hq : chk (tx x e) = NumText.digitsVal ((hd x e).drop 4) ↔ d3 (ck (tx x e)) = (hd x e).drop 4 := by
              rw [dv, ← ck_eq]
              omega
            by_cases h6 : d3 (ck (tx x e)) = (hd x e).drop 4
            · have hs : stepP x e = some (tx x e) := by unfold stepP; rw [if_neg (by simp [h1, h2]), if_neg (by simp [h3, h4]; exact fun c hc => of_decide_eq_true (List.all_eq_true.mp h5 c hc)), if_pos (hq.mpr h6)]
              rw [hs]
              have hsz : (tx x e).length = sz x e := by
                have a1 : (tx x e).length ≤ sz x e := by unfold tx; rw [List.length_take]; omega
                omega
              have la : acc.length + 1 ≤ LIM := ha
              refine ⟨.fz (.str (hd x e)), .fz (.int (sz x e)), .fz (.str (tx x e)), ?_⟩
              have ce : ((e + 7 + (tx x e).length : Nat) : Int) = (e : Int) + 7 + (sz x e : Nat) := by rw [hsz]; omega
              rw [ce]
              simp [-gInt, fLF, gSl, k1, h1', itemsD, b1, g1, hB1, l2, l1, k2, n1, k3, k4, h3, h4, b2, g2, hB2', c1, c2, h6, la]
            · have hs : stepP x e = none := by unfold stepP; rw [if_neg (by simp [h1, h2]), if_neg (by simp [h3, h4]; exact fun c hc => of_decide_eq_true (List.all_eq_true.mp h5 c hc)), if_neg (fun z => h6 (hq.mp z))]
              rw [hs]
              refine ⟨[.fz (.str x), .fz (.tup acc), .fz (.int e), a3, .fz (.str (hd x e)), .no, .fz (.int (sz x e)), .fz (.str (tx x e))], ?_⟩
              simp [-gInt, fLF, gSl, k1, h1', itemsD, b1, g1, hB1, l2, k2, n1, k3, k4, h3, h4, b2, g2, hB2', c1, c2, h6]
          · have h5' : ((tx x e).all fun c => decide (c ∈ SG)) = false := by simpa using h5
            have hB2' : B2 ≠ [] := fun z => h5 (f2.mp z)
            have hs : stepP x e = none := by unfold stepP; rw [if_neg (by simp [h1, h2]), if_pos (.inr (.inr h5'))]
            rw [hs]
            refine ⟨[.fz (.str x), .fz (.tup acc), .fz (.int e), a3, .fz (.str (hd x e)), .no, .fz (.int (sz x e)), .fz (.str (tx x e))], ?_⟩
            simp [-gInt, fLF, gSl, k1, h1', itemsD, b1, g1, hB1, l2, k2, n1, k4, h3, h4, b2, g2, hB2']
    · have h2' : ((hd x e).all fun c => decide (c ∈ DG)) = false := by simpa using h2
      have hs : stepP x e = none := by unfold stepP; rw [if_pos (.inr h2')]
      rw [hs]
      have hB1 : B1 ≠ [] := fun z => h2 (f1.mp z)
      refine ⟨[.fz (.str x), .fz (.tup acc), .fz (.int e), a3, .fz (.str (hd x e)), .no, a6, a7], ?_⟩
      simp [fLF, gSl, k1, h1', itemsD, b1, g1, hB1, l2]
end LL

namespace LL
open PySem PySem.Spec PyProof.Rows L2 DL
theorem lf_loop (x : List Nat) (hl : x.length ≤ LIM) (hx : ∀ c ∈ x, c ∈ AL) : ∀ (items : List D) (e : Nat) (acc : List D) (a3 a4 a6 a7 : Sl), acc.length + items.length ≤ LIM →
    (∃ ρ2, sLoop (gN 3) fLF items [.fz (.str x), .fz (.tup acc), .fz (.int e), a3, a4, .no, a6, a7] = .ok (.rt (.tup [.tup (acc ++ (parseF items.length x e).1.map D.str), .int (parseF items.length x e).2])) ρ2) ∨
    (∃ b3 b4 b6 b7, sLoop (gN 3) fLF items [.fz (.str x), .fz (.tup acc), .fz (.int e), a3, a4, .no, a6, a7] = .ok .nx [.fz (.str x), .fz (.tup (acc ++ (parseF items.length x e).1.map D.str)), .fz (.int (parseF items.length x e).2), b3, b4, .no, b6, b7])
  | [], e, acc, a3, a4, a6, a7, _ => .inr ⟨a3, a4, a6, a7, by simp [sLoop, parseF]⟩
  | d :: r, e, acc, a3, a4, a6, a7, h => by
    simp only [List.length_cons] at h
    have hb := lf_body x hl hx acc e (.fz d) a4 a6 a7 (by omega)
    have hg : gN 3 d [.fz (.str x), .fz (.tup acc), .fz (.int e), a3, a4, .no, a6, a7] = some [.fz (.str x), .fz (.tup acc), .fz (.int e), .fz d, a4, .no, a6, a7] := rfl
    cases hs : stepP x e with
    | none =>
      rw [hs] at hb
      obtain ⟨ρ2, hb⟩ := hb
      refine .inl ⟨ρ2, ?_⟩
      have hp : parseF (r.length + 1) x e = ([], e) := by simp [parseF, hs]
      rw [List.length_cons, hp, sLoop, hg]
      simp only [optR, hb, Res.bind]
      simp
    | some t =>
      rw [hs] at hb
      obtain ⟨b4, b6, b7, hb⟩ := hb
      have hp : parseF (r.length + 1) x e = (t :: (parseF r.length x (e + 7 + t.length)).1, (parseF r.length x (e + 7 + t.length)).2) := by simp [parseF, hs]
      have ih := lf_loop x hl hx r (e + 7 + t.length) (acc ++ [.str t]) (.fz d) b4 b6 b7 (by simp; omega)
      rw [List.length_cons, hp, sLoop, hg]
      simp only [optR, hb, Res.bind]
      rcases ih with ⟨ρ2, ih⟩ | ⟨c3, c4, c6, c7, ih⟩
      · exact .inl ⟨ρ2, by rw [ih]; simp⟩
      · exact .inr ⟨c3, c4, c6, c7, by rw [ih]; simp⟩
theorem parseF_more (x : List Nat) : ∀ (m n e : Nat), x.length < e + m → m ≤ n → parseF n x e = parseF m x e
  | m, n, e, h1, h2 => by
    cases hs : stepP x e with
    | none => cases m <;> cases n <;> simp [parseF, hs]
    | some t =>
      obtain ⟨t1, t2⟩ := stepP_some hs
      cases m with
      | zero => omega
      | succ m =>
        cases n with
        | zero => omega
        | succ n => simp [parseF, hs, parseF_more x m n (e + 7 + t.length) (by omega) (by omega)]
theorem parse_some {x t : List Nat} {e n : Nat} (hs : stepP x e = some t) : parseF (n + 1) x e = (t :: (parseF n x (e + 7 + t.length)).1, (parseF n x (e + 7 + t.length)).2) := by simp [parseF, hs]
/-- with one turn for each sign the parse ends, too -/
theorem parse_len (x : List Nat) : parseF x.length x 0 = parseF (x.length + 1) x 0 := by
  cases hs : stepP x 0 with
  | none => cases h : x.length <;> simp [parseF, hs]
  | some t =>
    obtain ⟨t1, t2⟩ := stepP_some hs
    obtain ⟨n, hn⟩ : ∃ n, x.length = n + 1 := ⟨x.length - 1, by omega⟩
    rw [hn, parse_some hs, parse_some hs, parseF_more x n (n + 1) (0 + 7 + t.length) (by omega) (by omega)]
theorem l_frames_in_ok (x : List Nat) (hl : x.length + 2 ≤ LIM) (hx : ∀ c ∈ x, c ∈ AL) : F_l_frames_in [.str x] = .ok (.val (.tup [.tup ((parseF (x.length + 1) x 0).1.map D.str), .int (parseF (x.length + 1) x 0).2])) [] := by
  have hr : (rangeD 0 x.length).length = x.length := by simp [rangeD]
  have h := lf_loop x (by omega) hx (rangeD 0 x.length) 0 [] .no .no .no .no (by rw [hr]; simp; omega)
  rw [hr, parse_len, List.nil_append] at h
  have l1 : -LR ≤ (x.length : Int) := by unfold LR; omega
  have l2 : (x.length : Int) ≤ LR := by unfold LIM at hl; unfold LR; omega
  have l3 : (2 : Nat) ≤ LIM := by decide
  unfold F_l_frames_in
  rw [fLF_eq]
  simp only [Int.natCast_zero, Int.ofNat_zero] at h
  rcases h with ⟨ρ2, h⟩ | ⟨b3, b4, b6, b7, h⟩
  · simp [l1, l2, l3, h]
  · simp [l1, l2, l3, h]
/-! ### a stream of frames, cut anywhere -/
def strm (ts : List (List Nat)) : List Nat := (ts.map frm).flatten
theorem frm_len {t : List Nat} : (frm t).length = 7 + t.length := by simp [frm, d3_len, d4_len]; omega
theorem d_DG {n : Nat} (h : n < 1000) : (∀ c ∈ d3 n, c ∈ DG) ∧ ∀ c ∈ d4 n, c ∈ DG := by
  have : ∀ k, k < 10 → 48 + k ∈ DG := by decide
  have a := this (n / 100) (by omega)
  have b := this (n / 10 % 10) (by omega)
  have c := this (n % 10) (by omega)
  have z := this 0 (by omega)
  refine ⟨fun x hx => ?_, fun x hx => ?_⟩
  · simp only [d3, List.mem_cons, List.not_mem_nil, or_false] at hx
    rcases hx with rfl | rfl | rfl <;> assumption
  · simp only [d4, d3, List.mem_cons, List.not_mem_nil, or_false] at hx
    rcases hx with rfl | rfl | rfl | rfl <;> assumption
theorem d3_dv {n : Nat} (h : n < 1000) : NumText.digitsVal (d3 n) = n := (d3_val rfl (d_DG h).1 h).mp rfl
theorem d4_dv {n : Nat} (h : n < 1000) : NumText.digitsVal (d4 n) = n := by
  have e : NumText.digitsVal (d4 n) = NumText.digitsVal (d3 n) := by simp [d4, NumText.digitsVal]
  rw [e, d3_dv h]
/-- a whole frame stands at e -/
theorem step_whole {p t q : List Nat} (ht : Txt t) : stepP (p ++ frm t ++ q) p.length = some t := by
  have hn : t.length < 1000 := by have := ht.2.1; omega
  have hk : ck t < 1000 := by have := ck_lt t; omega
  have h0 : hd (p ++ frm t ++ q) p.length = d4 t.length ++ d3 (ck t) := by
    unfold hd frm
    rw [List.append_assoc, List.drop_left', List.append_assoc, List.append_assoc]
    · rw [← List.append_assoc, List.take_left']
      simp [d3_len, d4_len]
    · rfl
  have h1 : sz (p ++ frm t ++ q) p.length = t.length := by
    unfold sz
    rw [h0, List.take_left' (d4_len _), d4_dv hn]
  have h2 : tx (p ++ frm t ++ q) p.length = t := by
    unfold tx
    rw [h1]
    have e : p ++ frm t ++ q = (p ++ (d4 t.length ++ d3 (ck t))) ++ (t ++ q) := by simp [frm]
    rw [e, List.drop_left' (by simp [d3_len, d4_len]), List.take_left']
    rfl
  have h3 : ((hd (p ++ frm t ++ q) p.length).all fun c => decide (c ∈ DG)) = true := by
    rw [h0, List.all_eq_true]
    intro c hc
    rcases List.mem_append.mp hc with z | z
    · exact decide_eq_true ((d_DG hn).2 c z)
    · exact decide_eq_true ((d_DG hk).1 c z)
  have h4 : (t.all fun c => decide (c ∈ SG)) = true := List.all_eq_true.mpr fun c hc => decide_eq_true (ht.2.2 c hc)
  unfold stepP
  rw [h1, h2, h3, h4, h0, List.drop_left' (d4_len _), d3_dv hk]
  have h5 : t.length ≠ 0 := by have := ht.1; omega
  simp [d3_len, d4_len, h5, ck_eq]
end LL

namespace LL
open PySem PySem.Spec PyProof.Rows L2 DL
/-- a frame that is cut short -/
theorem step_cut {p t : List Nat} {k : Nat} (ht : Txt t) (hk : k < 7 + t.length) : stepP (p ++ (frm t).take k) p.length = none := by
  have hn : t.length < 1000 := by have := ht.2.1; omega
  have hc : ck t < 1000 := by have := ck_lt t; omega
  have h0 : hd (p ++ (frm t).take k) p.length = ((frm t).take k).take 7 := by unfold hd; rw [List.drop_left' rfl]
  by_cases h7 : k < 7
  · unfold stepP
    have : (hd (p ++ (frm t).take k) p.length).length < 7 := by rw [h0, List.length_take, List.length_take]; omega
    rw [if_pos (.inl this)]
  · have e : (frm t).take k = (d4 t.length ++ d3 (ck t)) ++ t.take (k - 7) := by
      unfold frm
      rw [List.take_append]
      congr 1
      · rw [List.take_of_length_le]; simp [d3_len, d4_len]; omega
    have h0' : hd (p ++ (frm t).take k) p.length = d4 t.length ++ d3 (ck t) := by
      rw [h0, e, List.take_left' (by simp [d3_len, d4_len])]
    have h1 : sz (p ++ (frm t).take k) p.length = t.length := by
      unfold sz
      rw [h0', List.take_left' (d4_len _), d4_dv hn]
    have h2 : (tx (p ++ (frm t).take k) p.length).length < t.length := by
      unfold tx
      rw [List.length_take, List.length_drop, List.length_append, List.length_take, frm_len]
      have := ht.1
      omega
    have h3 : ((hd (p ++ (frm t).take k) p.length).all fun c => decide (c ∈ DG)) = true := by
      rw [h0', List.all_eq_true]
      intro c hc'
      rcases List.mem_append.mp hc' with z | z
      · exact decide_eq_true ((d_DG hn).2 c z)
      · exact decide_eq_true ((d_DG hc).1 c z)
    unfold stepP
    rw [h3, h0', h1]
    simp [d3_len, d4_len, h2]
/-- how many frames stand whole within k signs -/
def cutN : List (List Nat) → Nat → Nat
  | [], _ => 0
  | t :: r, k => if 7 + t.length ≤ k then cutN r (k - (7 + t.length)) + 1 else 0
theorem parse_strm : ∀ (ts : List (List Nat)) (k : Nat) (p : List Nat) (m : Nat), (∀ t ∈ ts, Txt t) → (p ++ (strm ts).take k).length < p.length + m →
    parseF m (p ++ (strm ts).take k) p.length = (ts.take (cutN ts k), p.length + (strm (ts.take (cutN ts k))).length)
  | [], k, p, m, _, hm => by
    have e0 : (strm []).take k = [] := by simp [strm]
    rw [e0, List.append_nil] at hm ⊢
    have hs : stepP p p.length = none := by
      unfold stepP
      have : (hd p p.length).length < 7 := by unfold hd; simp
      rw [if_pos (.inl this)]
    cases m <;> simp [parseF, hs, cutN, strm]
  | t :: r, k, p, m, ht, hm => by
    have h1 := ht t (List.mem_cons_self ..)
    have es : strm (t :: r) = frm t ++ strm r := by simp [strm]
    by_cases hk : 7 + t.length ≤ k
    · have ex : p ++ (strm (t :: r)).take k = (p ++ frm t) ++ (strm r).take (k - (7 + t.length)) := by
        rw [es, List.take_append, frm_len, List.take_of_length_le (by rw [frm_len]; exact hk), List.append_assoc]
      have hs := step_whole (p := p) (q := (strm r).take (k - (7 + t.length))) h1
      rw [ex] at hm ⊢
      cases m with
      | zero => simp [frm_len] at hm; omega
      | succ m =>
        have ep : p.length + 7 + t.length = (p ++ frm t).length := by rw [List.length_append, frm_len]; omega
        have ih := parse_strm r (k - (7 + t.length)) (p ++ frm t) m (fun u hu => ht u (List.mem_cons_of_mem _ hu)) (by rw [← ep]; omega)
        rw [parse_some hs, ep, ih]
        simp only [cutN, hk, if_true, List.take_succ_cons]
        have e2 : strm (t :: r.take (cutN r (k - (7 + t.length)))) = frm t ++ strm (r.take (cutN r (k - (7 + t.length)))) := by simp [strm]
        rw [e2, List.length_append, List.length_append]
        congr 1
        omega
    · have ex : (strm (t :: r)).take k = (frm t).take k := by
        rw [es, List.take_append_of_le_length (by rw [frm_len]; omega)]
      have hs := step_cut (p := p) (k := k) h1 (by omega)
      rw [ex]
      cases m <;> simp [parseF, hs, cutN, hk, strm]
/-! ### the ends of the frames -/
def endsL : Nat → List (List Nat) → List Nat
  | _, [] => []
  | k, t :: r => (k + 7 + t.length) :: endsL (k + 7 + t.length) r
theorem endsL_gt : ∀ (ts : List (List Nat)) (k e : Nat), e ∈ endsL k ts → k < e
  | [], _, _, h => by cases h
  | t :: r, k, e, h => by
    rcases List.mem_cons.mp h with z | z
    · omega
    · have := endsL_gt r _ e z; omega
theorem ends_count : ∀ (ts : List (List Nat)) (k at' : Nat), ((endsL k ts).filter fun e => decide (e ≤ k + at')).length = cutN ts at'
  | [], _, _ => rfl
  | t :: r, k, at' => by
    by_cases h : 7 + t.length ≤ at'
    · have ih := ends_count r (k + 7 + t.length) (at' - (7 + t.length))
      rw [show k + 7 + t.length + (at' - (7 + t.length)) = k + at' by omega] at ih
      simp only [endsL, cutN, h, if_true]
      rw [List.filter_cons_of_pos (by simp; omega), List.length_cons, ih]
    · have : (endsL (k + 7 + t.length) r).filter (fun e => decide (e ≤ k + at')) = [] := by
        rw [List.filter_eq_nil_iff]
        intro e he
        have := endsL_gt r _ e he
        simp; omega
      simp only [endsL, cutN, h, if_false]
      rw [List.filter_cons_of_neg (by simp; omega), this]; rfl
theorem ends_get : ∀ (ts : List (List Nat)) (k n : Nat), n ≤ ts.length → (k :: endsL k ts)[n]? = some (k + (strm (ts.take n)).length)
  | ts, k, 0, _ => by simp [strm]
  | [], k, n + 1, h => by simp at h
  | t :: r, k, n + 1, h => by
    have ih := ends_get r (k + 7 + t.length) n (by simpa using h)
    have e : strm ((t :: r).take (n + 1)) = frm t ++ strm (r.take n) := by simp [strm]
    rw [e, List.length_append, frm_len, List.getElem?_cons_succ]
    simp only [endsL]
    rw [ih]
    congr 1; omega
theorem cutN_le : ∀ (ts : List (List Nat)) (k : Nat), cutN ts k ≤ ts.length
  | [], _ => Nat.le_refl _
  | t :: r, k => by
    have := cutN_le r (k - (7 + t.length))
    unfold cutN
    split <;> simp <;> omega
end LL

namespace LL
open PySem PySem.Spec PyProof.Rows L2 DL
theorem strm_len : ∀ ts : List (List Nat), (∀ t ∈ ts, Txt t) → (strm ts).length ≤ 1006 * ts.length
  | [], _ => by simp [strm]
  | t :: r, h => by
    have ih := strm_len r fun u hu => h u (List.mem_cons_of_mem _ hu)
    have e : strm (t :: r) = frm t ++ strm r := by simp [strm]
    have := (h t (List.mem_cons_self ..)).2.1
    rw [e, List.length_append, frm_len, List.length_cons]; omega
theorem strm_SG : ∀ ts : List (List Nat), (∀ t ∈ ts, Txt t) → ∀ c ∈ strm ts, c ∈ SG := fun ts h c hc => by
  have hD : ∀ c ∈ DG, c ∈ SG := by decide
  unfold strm at hc
  rw [List.mem_flatten] at hc
  obtain ⟨l, hl, hc⟩ := hc
  rw [List.mem_map] at hl
  obtain ⟨t, ht, rfl⟩ := hl
  have h1 := h t ht
  have hn : t.length < 1000 := by have := h1.2.1; omega
  have hk : ck t < 1000 := by have := ck_lt t; omega
  unfold frm at hc
  rcases List.mem_append.mp hc with z | z
  · rcases List.mem_append.mp z with z | z
    · exact hD c ((d_DG hn).2 c z)
    · exact hD c ((d_DG hk).1 c z)
  · exact h1.2.2 c z
theorem l_stream_ok (ts : List (List Nat)) (h : ∀ t ∈ ts, Txt t) (hl : ts.length ≤ 100) : F_l_stream [.tup (ts.map D.str)] = .ok (.val (.str (strm ts))) [] := by
  have key := lc_map (vs := [1]) (turn := dTurn (gN 1) (dYes) (dCal 1 F_l_frame (dCons (dVar 1) (dNil)))) (ρ := [.fz (.tup (ts.map D.str)), .no]) (fun d => match d with | .str t => .str (frm t) | _ => .non) (items := ts.map D.str) (acc := []) (fun d hd => by
    rw [List.mem_map] at hd
    obtain ⟨t, ht, rfl⟩ := hd
    refine ⟨[.fz (.tup (ts.map D.str)), .fz (.str t)], ?_, rfl⟩
    simp [l_frame_ok t (h t ht)]) (by simp; exact Nat.le_trans hl (by decide))
  have e : (ts.map D.str).map (fun d => match d with | .str t => .str (frm t) | _ => D.non) = (ts.map frm).map D.str := by rw [List.map_map, List.map_map]; rfl
  rw [e, List.nil_append] at key
  have hsum : ((ts.map frm).map List.length).sum = (strm ts).length := by unfold strm; rw [List.length_flatten]
  have hL : ((ts.map frm).map List.length).sum ≤ LIM := by
    rw [hsum]; exact Nat.le_trans (strm_len ts h) (Nat.le_trans (show 1006 * ts.length ≤ 100600 by omega) (by decide))
  have hj : gJoin (.str []) [.lst ((ts.map frm).map D.str)] = some (.str (strm ts)) := by
    simp only [gJoin, strsD_map, Option.bind_some, List.length_nil, Nat.mul_zero, Nat.add_zero, hL, if_true, joinL_nil]
    rfl
  generalize (ts.map frm).map D.str = Z at key hj
  simp [F_l_stream, f_l_stream, itemsD, key, hj, D.ty]
theorem endsL_snoc : ∀ (ts : List (List Nat)) (k : Nat) (t : List Nat), endsL k (ts ++ [t]) = endsL k ts ++ [k + (strm ts).length + 7 + t.length]
  | [], k, t => by simp [endsL, strm]
  | u :: r, k, t => by
    have ih := endsL_snoc r (k + 7 + u.length) t
    have e : strm (u :: r) = frm u ++ strm r := by simp [strm]
    simp only [List.cons_append, endsL, ih, e, List.length_append, frm_len]
    congr 3
    omega
end LL

namespace DL
open PySem PySem.Spec PyProof.Rows L2
theorem permL_10 {α : Type} (a b : α) : permL [1, 0] [a, b] = [b, a] := rfl
theorem permL_210 {α : Type} (a b c : α) : permL [2, 1, 0] [a, b, c] = [c, b, a] := rfl
theorem enumD_nil (k : Int) : enumD k [] = [] := rfl
theorem enumD_cons (k : Int) (d : D) (l : List D) : enumD k (d :: l) = .tup [.int k, d] :: enumD (k + 1) l := by
  unfold enumD
  rw [List.length_cons, List.range_succ_eq_map, List.map_cons, List.map_map]
  simp only [Int.natCast_zero, Int.ofNat_zero, Int.add_zero]
  have hh : (D.tup [.int k, (d :: l).getD 0 .non]) = .tup [.int k, d] := by simp
  rw [hh]
  congr 1
  refine List.map_congr_left fun i _ => ?_
  simp only [Function.comp]
  have e : k + ((i + 1 : Nat) : Int) = k + 1 + (i : Nat) := by omega
  rw [show ((Nat.succ i : Nat) : Int) = ((i + 1 : Nat) : Int) from rfl, e]
  simp
theorem rangeD_succ (k : Int) (n : Nat) : rangeD k (n + 1) = .int k :: rangeD (k + 1) n := by
  unfold rangeD
  rw [List.range_succ_eq_map, List.map_cons, List.map_map]
  simp only [Int.natCast_zero, Int.ofNat_zero, Int.add_zero]
  congr 1
  refine List.map_congr_left fun i _ => ?_
  simp only [Function.comp]
  have e : k + ((i + 1 : Nat) : Int) = k + 1 + (i : Nat) := by omega
  rw [show ((Nat.succ i : Nat) : Int) = ((i + 1 : Nat) : Int) from rfl, e]
theorem rangeD_zero (k : Int) : rangeD k 0 = [] := rfl
theorem rangeD_len (k : Int) (n : Nat) : (rangeD k n).length = n := by simp [rangeD]
theorem rangeD_mem {k : Int} {n : Nat} {d : D} (h : d ∈ rangeD k n) : ∃ i : Nat, i < n ∧ d = .int (k + i) := by
  unfold rangeD at h
  rw [List.mem_map] at h
  obtain ⟨i, hi, rfl⟩ := h
  exact ⟨i, by simpa using hi, rfl⟩
theorem starts_eq (x y : List Nat) : startsL x y = decide (x.take y.length = y) := by
  unfold startsL PySem.Txt.startswith
  rw [PySem.StrLaws.subAt_eq, toS_len, toS_len, toS_list, toS_list, List.drop_zero, eq_beq]
  by_cases h : x.take y.length = y
  · have : y.length ≤ x.length := by
      have := congrArg List.length h
      rw [List.length_take] at this; omega
    simp [h, this]
  · simp [h]
/-- the last of a :: l -/
def lst0 {α : Type} : α → List α → α
  | a, [] => a
  | _, b :: r => lst0 b r
theorem lst0_get {α : Type} : ∀ (l : List α) (a : α), (a :: l)[l.length]? = some (lst0 a l)
  | [], _ => rfl
  | b :: r, a => by rw [List.length_cons, List.getElem?_cons_succ, lst0_get r b]; rfl
theorem lst0_map {α β : Type} (f : α → β) : ∀ (l : List α) (a : α), lst0 (f a) (l.map f) = f (lst0 a l)
  | [], _ => rfl
  | b :: r, a => lst0_map f r b
theorem lst0_mem {α : Type} : ∀ (l : List α) (a : α), lst0 a l ∈ a :: l
  | [], a => List.mem_cons_self ..
  | b :: r, a => List.mem_cons_of_mem _ (lst0_mem r b)
theorem atI_last {α : Type} (a : α) (l : List α) : L2.atI (a :: l) (-1) = some (lst0 a l) := by
  unfold L2.atI ixN
  have h1 : ¬ (0 : Int) ≤ -1 := by omega
  have h2 : -(((a :: l).length : Nat) : Int) ≤ -1 := by rw [List.length_cons]; omega
  rw [if_neg h1, if_pos h2]
  have h3 : (-1 + (((a :: l).length : Nat) : Int)).toNat = l.length := by rw [List.length_cons]; omega
  rw [h3]
  exact lst0_get l a
/-- what lets itself be compared by the laws' same -/
def Sm : Nat → D → Prop
  | 0, _ => False
  | n + 1, d => match d with
    | .int _ => True
    | .str _ => True
    | .non => True
    | .tup l => l.length ≤ 1000 ∧ ∀ e ∈ l, Sm n e
    | .lst l => l.length ≤ 1000 ∧ ∀ e ∈ l, Sm n e
    | _ => False
theorem gSum_i (ns : List Int) : gSum [.lst (ns.map D.int)] = some (.int ns.sum) := by simp [gSum, intsD_map]
theorem gMaxD_i (ns : List Int) (d : Int) : gMaxD [.lst (ns.map D.int)] [.int d] = some (.int (if ns = [] then d else maxI ns)) := by simp [gMaxD, intsD_map]
end DL

namespace LL
open PySem PySem.Spec PyProof.Rows L2 DL
theorem same_refl : ∀ (n : Nat) (d : D), Sm n d → FF_l_same n [d, d] = .ok (.val (.bl true)) []
  | 0, _, h => h.elim
  | n + 1, .int i, _ => same_int n i
  | n + 1, .str x, _ => same_str n x
  | n + 1, .non, _ => by simp [FF_l_same, f_l_same, isi, D.ty]
  | n + 1, .tup l, h => same_seq n l D.tup (.inl rfl) h.1 fun d hd => same_refl n d (h.2 d hd)
  | n + 1, .lst l, h => same_seq n l D.lst (.inr rfl) h.1 fun d hd => same_refl n d (h.2 d hd)
  | n + 1, .bl _, h => h.elim
  | n + 1, .scr _, h => h.elim
theorem Sm_strs (n : Nat) (ts : List (List Nat)) (h : ts.length ≤ 1000) : Sm (n + 2) (.tup (ts.map D.str)) :=
  ⟨by simpa using h, fun d hd => by
    rw [List.mem_map] at hd
    obtain ⟨t, _, rfl⟩ := hd
    trivial⟩
/-! ### the notes up to the last end -/
def isd (t : List Nat) : Bool := decide (t.take 2 = [100, 32])
def dE : Nat → List (List Nat) → List Nat
  | _, [] => []
  | k, t :: r => if isd t then (k + 1) :: dE (k + 1) r else dE (k + 1) r
theorem dE_in : ∀ (ts : List (List Nat)) (k y : Nat), y ∈ dE k ts → k < y ∧ y ≤ k + ts.length
  | [], _, _, h => by cases h
  | t :: r, k, y, h => by
    unfold dE at h
    split at h
    · rcases List.mem_cons.mp h with z | z
      · simp; omega
      · have := dE_in r (k + 1) y z; simp; omega
    · have := dE_in r (k + 1) y h; simp; omega
theorem dE_up : ∀ (ts : List (List Nat)) (k : Nat), (k :: dE k ts).Pairwise (· < ·)
  | [], k => by simp [dE]
  | t :: r, k => by
    have ih := dE_up r (k + 1)
    rw [List.pairwise_cons] at ih ⊢
    unfold dE
    split
    · exact ⟨fun y hy => (List.mem_cons.mp hy).elim (fun e => by omega) fun e => by have := ih.1 y e; omega, List.pairwise_cons.mpr ih⟩
    · exact ⟨fun y hy => by have := ih.1 y hy; omega, ih.2⟩
theorem dE_take : ∀ (ts : List (List Nat)) (k m : Nat), dE k (ts.take m) = (dE k ts).filter fun y => decide (y ≤ k + m)
  | [], k, m => by simp [dE]
  | t :: r, k, 0 => by
    have h : (dE k (t :: r)).filter (fun y => decide (y ≤ k + 0)) = [] := by
      rw [List.filter_eq_nil_iff]
      intro y hy
      have := dE_in _ _ _ hy
      simp; omega
    rw [h]; rfl
  | t :: r, k, m + 1 => by
    have ih := dE_take r (k + 1) m
    rw [List.take_succ_cons]
    unfold dE
    rw [show k + 1 + m = k + (m + 1) by omega] at ih
    split
    · rw [List.filter_cons_of_pos (by simp), ih]
    · exact ih
theorem up_last : ∀ (l : List Nat) (a : Nat), (a :: l).Pairwise (· < ·) → ∀ y ∈ a :: l, y ≤ lst0 a l
  | [], a, _, y, h => by simp at h; simp [lst0, h]
  | b :: r, a, h, y, hy => by
    have h2 := List.pairwise_cons.mp h
    have ih := up_last r b h2.2
    rcases List.mem_cons.mp hy with e | e
    · have := ih b (List.mem_cons_self ..)
      have := h2.1 b (List.mem_cons_self ..)
      show y ≤ lst0 b r
      omega
    · exact ih y e
def dN (ts : List (List Nat)) : Nat := lst0 0 (dE 0 ts)
theorem dN_le (ts : List (List Nat)) : dN ts ≤ ts.length := by
  rcases List.mem_cons.mp (lst0_mem (dE 0 ts) 0) with e | e
  · unfold dN; omega
  · have := (dE_in _ _ _ e).2; unfold dN; omega
theorem dN_max (ts : List (List Nat)) : (if (dE 0 ts).map Int.ofNat = [] then (0 : Int) else maxI ((dE 0 ts).map Int.ofNat)) = (dN ts : Nat) := by
  have hu := up_last (dE 0 ts) 0 (dE_up ts 0)
  have hm := lst0_mem (dE 0 ts) 0
  unfold dN
  by_cases h : dE 0 ts = []
  · rw [h]; simp [lst0]
  · rw [if_neg (by simpa using h)]
    symm
    apply maxI_eq
    · rw [List.mem_map]
      rcases List.mem_cons.mp hm with e | e
      · obtain ⟨y, hy⟩ := List.exists_mem_of_ne_nil _ h
        have h1 := (dE_in _ _ _ hy).1
        have h2 := hu y (List.mem_cons_of_mem _ hy)
        omega
      · exact ⟨_, e, rfl⟩
    · intro y hy
      rw [List.mem_map] at hy
      obtain ⟨z, hz, rfl⟩ := hy
      have := hu z (List.mem_cons_of_mem _ hz)
      show ((z : Nat) : Int) ≤ _
      omega
theorem dN_max0 (ts : List (List Nat)) : maxI ((dE 0 ts).map Int.ofNat ++ [0]) = (dN ts : Nat) := by
  have hu := up_last (dE 0 ts) 0 (dE_up ts 0)
  have hm := lst0_mem (dE 0 ts) 0
  unfold dN
  symm
  apply maxI_eq
  · rcases List.mem_cons.mp hm with e | e
    · rw [e]; simp
    · exact List.mem_append_left _ (List.mem_map.mpr ⟨_, e, rfl⟩)
  · intro y hy
    rcases List.mem_append.mp hy with hy | hy
    · rw [List.mem_map] at hy
      obtain ⟨z, hz, rfl⟩ := hy
      have := hu z (List.mem_cons_of_mem _ hz)
      show ((z : Nat) : Int) ≤ _
      omega
    · simp at hy; omega
theorem strm_le : ∀ (ts : List (List Nat)) (at' k : Nat), k ≤ ts.length → ((strm (ts.take k)).length ≤ at' ↔ k ≤ cutN ts at')
  | _, _, 0, _ => by simp [strm]
  | [], _, k + 1, h => by simp at h
  | t :: r, at', k + 1, h => by
    have e : strm ((t :: r).take (k + 1)) = frm t ++ strm (r.take k) := by simp [strm]
    rw [e, List.length_append, frm_len]
    have ih := strm_le r (at' - (7 + t.length)) k (by simpa using h)
    unfold cutN
    split
    · omega
    · omega
theorem cutN_take (ts : List (List Nat)) (n : Nat) (h : n ≤ ts.length) : cutN (ts.take n) (strm (ts.take n)).length = n := by
  have h1 := cutN_le (ts.take n) (strm (ts.take n)).length
  have h2 := (strm_le (ts.take n) (strm (ts.take n)).length n (by rw [List.length_take]; omega)).mp (by rw [List.take_take, Nat.min_self]; exact Nat.le_refl _)
  rw [List.length_take] at h1
  omega
theorem dN_take (ts : List (List Nat)) : dN (ts.take (dN ts)) = dN ts := by
  unfold dN
  rw [dE_take]
  have hu := up_last (dE 0 ts) 0 (dE_up ts 0)
  rw [List.filter_eq_self.mpr]
  intro y hy
  have := hu y (List.mem_cons_of_mem _ hy)
  simpa using this
/-! ### opened: the program's, the law's -/
def ens (x : List Nat) : List (List Nat) := (parseF (x.length + 1) x 0).1
def opD (x : List Nat) : D := .tup [.tup (((ens x).take (dN (ens x))).map D.str), .int (strm ((ens x).take (dN (ens x)))).length, .tup (if (strm ((ens x).take (dN (ens x)))).length < x.length then [.tup [.str [99, 117, 116], .int (strm ((ens x).take (dN (ens x)))).length]] else [])]
theorem enum_filter (p : List Nat → Bool) (P : D → Bool) (g : D → D) (hP : ∀ i t, P (.tup [.int i, .str t]) = p t) (hg : ∀ i t, g (.tup [.int i, .str t]) = .int i) (hp : ∀ t, p t = isd t) : ∀ (ts : List (List Nat)) (k : Nat), ((enumD ((k : Int) + 1) (ts.map D.str)).filter P).map g = (dE k ts).map fun n => .int (Int.ofNat n)
  | [], k => rfl
  | t :: r, k => by
    have ih := enum_filter p P g hP hg hp r (k + 1)
    rw [List.map_cons, enumD_cons]
    have e : ((k : Int) + 1 + 1) = (((k + 1 : Nat) : Int) + 1) := by omega
    rw [e]
    unfold dE
    rw [← hp]
    by_cases h : p t = true
    · rw [List.filter_cons_of_pos (by rw [hP]; exact h), if_pos h, List.map_cons, List.map_cons, hg, ih]
      congr 1
    · rw [List.filter_cons_of_neg (by rw [hP]; exact h), if_neg h, ih]
theorem ens_len (x : List Nat) : (ens x).length * 8 ≤ x.length := by
  have : ∀ (n : Nat) (x : List Nat) (e : Nat), (parseF n x e).1.length * 8 ≤ x.length - e := by
    intro n
    induction n with
    | zero => intro x e; simp [parseF]
    | succ n ih =>
      intro x e
      cases hs : stepP x e with
      | none => simp [parseF, hs]
      | some t =>
        obtain ⟨t1, t2⟩ := stepP_some hs
        have ih := ih x (e + 7 + t.length)
        rw [parse_some hs]
        simp only [List.length_cons]
        omega
  have := this (x.length + 1) x 0
  unfold ens; omega
theorem whole_notes_ok (x : List Nat) (hl : x.length + 2 ≤ LIM) (hx : ∀ c ∈ x, c ∈ AL) : F_whole_notes [.str x] = .ok (.val (.lst (((ens x).take (dN (ens x))).map D.str))) [] := by
  have h := frames_by_ok x hl hx
  have hn := ens_len x
  unfold ens at hn ⊢
  generalize (parseF (x.length + 1) x 0).1 = ts at h hn ⊢
  generalize ((parseF (x.length + 1) x 0).2 : Int) = e at h
  have c1 : (c_OF_END) = .str [100] := rfl
  have c2 : (c_BLANK) = .str [32] := rfl
  have hg : gAdd (.str [100]) (.str [32]) = some (.str [100, 32]) := by
    have : (1 + 1 : Nat) ≤ LIM := by decide
    simp [this]
  have key := lc_filter (vs := [4, 5]) (turn := dTurn (gT (gsC (gN 4) (gsC (gN 5) (gs0)))) (dTr (dMt "str" gStarts (dVar 5) (dCons (dBin gAdd (dC c_OF_END) (dC c_BLANK)) (dNil)))) (dVar 4)) (ρ := [.fz (.str x), .fz (.lst (ts.map D.str)), .fz (.int e), .no, .no, .no])
    (fun d => match d with | .tup [_, .str t] => isd t | _ => false) (fun d => match d with | .tup [i, _] => i | _ => .non) (items := enumD 1 (ts.map D.str)) (acc := []) (fun d hd => by
      unfold enumD at hd
      rw [List.mem_map] at hd
      obtain ⟨i, hi, rfl⟩ := hd
      have hi : i < ts.length := by simpa using hi
      have hg2 : (ts.map D.str).getD i .non = .str ts[i] := by simp [List.getD, hi]
      rw [hg2]
      refine ⟨[.fz (.str x), .fz (.lst (ts.map D.str)), .fz (.int e), .no, .fz (.int (1 + (i : Nat))), .fz (.str ts[i])], ?_, rfl⟩
      have hs : gStarts (.str ts[i]) [.str [100, 32]] = some (.bl (isd ts[i])) := by
        simp only [gStarts, starts_eq]
        rfl
      generalize (1 + ((i : Nat) : Int)) = j
      by_cases hq : isd ts[i] = true
      · simp [-gAdd, c1, c2, hg, hs, hq, D.ty]
      · simp [-gAdd, c1, c2, hg, hs, hq, D.ty]) (by simp [enumD]; omega)
  rw [List.nil_append] at key
  have e1 := enum_filter isd (fun d => match d with | .tup [_, .str t] => isd t | _ => false) (fun d => match d with | .tup [i, _] => i | _ => .non) (fun _ _ => rfl) (fun _ _ => rfl) (fun _ => rfl) ts 0
  rw [show ((0 : Nat) : Int) + 1 = 1 by rfl] at e1
  rw [e1] at key
  have e2 : (dE 0 ts).map (fun n => D.int (Int.ofNat n)) = ((dE 0 ts).map Int.ofNat).map D.int := by rw [List.map_map]; rfl
  rw [e2] at key
  have hm := gMaxD_i ((dE 0 ts).map Int.ofNat) 0
  rw [dN_max] at hm
  generalize ((dE 0 ts).map Int.ofNat).map D.int = L at key hm
  have l1 : -LR ≤ (1 : Int) := by unfold LR; omega
  have l2 : (1 : Int) ≤ LR := by unfold LR; omega
  have hc := cutL_b (ts.map D.str) (dN ts)
  simp [F_whole_notes, f_whole_notes, h, itemsD, l1, l2, key, hm, gSl, hc, List.map_take]
theorem end_of_ok (ts : List (List Nat)) (hl : ts.length ≤ LIM) : F_end_of [.lst (ts.map D.str)] = .ok (.val (.int (strm ts).length)) [] := by
  have cH : c_HEAD = .int 7 := rfl
  have key := lc_map (vs := [1]) (turn := dTurn (gN 1) (dYes) (dBin gAdd (dC c_HEAD) (dCall gLen (dCons (dVar 1) (dNil))))) (ρ := [.fz (.lst (ts.map D.str)), .no]) (fun d => match d with | .str t => .int (7 + t.length) | _ => .non) (items := ts.map D.str) (acc := []) (fun d hd => by
    rw [List.mem_map] at hd
    obtain ⟨t, ht, rfl⟩ := hd
    exact ⟨[.fz (.lst (ts.map D.str)), .fz (.str t)], by simp [cH], rfl⟩) (by simpa using hl)
  have e : (ts.map D.str).map (fun d => match d with | .str t => .int (7 + t.length) | _ => D.non) = (ts.map fun t => (7 + (t.length : Int))).map D.int := by rw [List.map_map, List.map_map]; rfl
  rw [e, List.nil_append] at key
  have hs := gSum_i (ts.map fun t => (7 + (t.length : Int)))
  have hv : (ts.map fun t => (7 + (t.length : Int))).sum = ((strm ts).length : Nat) := by
    clear key hs e hl
    induction ts with
    | nil => rfl
    | cons t r ih =>
      have e : strm (t :: r) = frm t ++ strm r := by simp [strm]
      rw [List.map_cons, List.sum_cons, ih, e, List.length_append, frm_len]
      omega
  rw [hv] at hs
  generalize (ts.map fun t => (7 + (t.length : Int))).map D.int = L at key hs
  simp [F_end_of, f_end_of, itemsD, key, hs]
theorem opened_ok (x : List Nat) (hl : x.length + 2 ≤ LIM) (hx : Sig x) : F_opened [.str x] = .ok (.val (opD x)) [] := by
  have hxA : ∀ c ∈ x, c ∈ AL := fun c hc => SG_AL (hx c hc)
  have h1 := check_signs_ok x (by omega) hx
  have h2 := whole_notes_ok x hl hxA
  have hn := ens_len x
  have h3 := end_of_ok ((ens x).take (dN (ens x))) (by rw [List.length_take]; omega)
  unfold opD
  generalize (ens x).take (dN (ens x)) = ts at h2 h3 ⊢
  generalize (strm ts).length = e at h3 ⊢
  have c1 : c_CUT = .str [99, 117, 116] := rfl
  have l0 : (0 : Nat) ≤ LIM := by decide
  have l1 : (1 : Nat) ≤ LIM := by decide
  have l2 : (2 : Nat) ≤ LIM := by decide
  have l3 : (3 : Nat) ≤ LIM := by decide
  by_cases h : e < x.length
  · have h' : (e : Int) < x.length := by omega
    simp [F_opened, f_opened, F_opened_by, f_opened_by, F_cut_writes, f_cut_writes, gTuple, h1, h2, h3, c1, l0, l1, l2, l3, h]
  · have h' : ¬ (e : Int) < x.length := by omega
    simp [F_opened, f_opened, F_opened_by, f_opened_by, F_cut_writes, f_cut_writes, gTuple, h1, h2, h3, c1, l0, l1, l2, l3, h]
end LL

namespace LL
open PySem PySem.Spec PyProof.Rows L2 DL
theorem ens_txt (x : List Nat) (hl : x.length ≤ 999) : ∀ t ∈ ens x, Txt t := by
  have : ∀ (n e : Nat), ∀ t ∈ (parseF n x e).1, Txt t := by
    intro n
    induction n with
    | zero => intro e t h; simp [parseF] at h
    | succ n ih =>
      intro e t h
      cases hs : stepP x e with
      | none => simp [parseF, hs] at h
      | some u =>
        rw [parse_some hs] at h
        rcases List.mem_cons.mp h with z | z
        · subst z
          obtain ⟨t1, t2⟩ := stepP_some hs
          refine ⟨t1, by omega, ?_⟩
          unfold stepP at hs
          split at hs
          · cases hs
          · split at hs
            · cases hs
            · rename_i h2
              split at hs
              · cases hs
                have h5 : ((tx x e).all fun c => decide (c ∈ SG)) = true := by
                  cases hq : ((tx x e).all fun c => decide (c ∈ SG)) with
                  | true => rfl
                  | false => exact absurd (.inr (.inr hq)) h2
                exact fun c hc => of_decide_eq_true (List.all_eq_true.mp h5 c hc)
              · cases hs
        · exact ih _ t z
  exact this _ _
theorem range_filter (P : D → Bool) (g : D → D) (ts : List (List Nat)) : ∀ (us vs : List (List Nat)) (k : Nat), ts = vs ++ us → vs.length = k → (∀ i : Nat, i < ts.length → P (.int i) = isd (ts.getD i [])) → (∀ i : Int, g (.int i) = .int (i + 1)) →
    ((rangeD (k : Int) us.length).filter P).map g = (dE k us).map fun n => .int (Int.ofNat n)
  | [], vs, k, _, _, _, _ => rfl
  | u :: r, vs, k, h1, h2, hP, hg => by
    have ih := range_filter P g ts r (vs ++ [u]) (k + 1) (by rw [h1]; simp) (by simp [h2]) hP hg
    have hk : k < ts.length := by rw [h1, List.length_append, List.length_cons]; omega
    have hu : ts.getD k [] = u := by rw [h1, ← h2]; simp [List.getD]
    have hq := hP k hk
    rw [hu] at hq
    rw [List.length_cons, rangeD_succ]
    have e : ((k : Int) + 1) = ((k + 1 : Nat) : Int) := by omega
    rw [e]
    unfold dE
    by_cases h : isd u = true
    · rw [List.filter_cons_of_pos (by rw [hq]; exact h), if_pos h, List.map_cons, List.map_cons, hg, ih, e]
      rfl
    · rw [List.filter_cons_of_neg (by rw [hq]; exact h), if_neg h, ih]
theorem l_opened_ok (x : List Nat) (hl : x.length ≤ 800) (hx : Sig x) : F_l_opened [.str x] = .ok (.val (opD x)) [] := by
  have hxA : ∀ c ∈ x, c ∈ AL := fun c hc => SG_AL (hx c hc)
  have hL : x.length + 2 ≤ LIM := Nat.le_trans (show x.length + 2 ≤ 802 by omega) (by decide)
  have h1 := l_frames_in_ok x hL hxA
  have hn := ens_len x
  have ht := ens_txt x (by omega)
  have h2 := l_stream_ok ((ens x).take (dN (ens x))) (fun t h => ht t (List.mem_of_mem_take h)) (by rw [List.length_take]; omega)
  rw [List.map_take] at h2
  unfold opD
  unfold ens at hn h2 ht ⊢
  generalize (parseF (x.length + 1) x 0).1 = ts at h1 hn h2 ht ⊢
  have key := lc_filter (vs := [3]) (turn := dTurn (gN 3) (dBo (dBin gEq (dSl (dBin gIx (dVar 1) (dVar 3)) (dNP) (dPt (dC (.int 2)))) (dC (.str [100, 32])))) (dBin gAdd (dVar 3) (dC (.int 1)))) (ρ := [.fz (.str x), .fz (.tup (ts.map D.str)), .no, .no, .no])
    (fun d => match d with | .int i => isd (ts.getD i.toNat []) | _ => false) (fun d => match d with | .int i => .int (i + 1) | _ => .non) (items := rangeD 0 ts.length) (acc := []) (fun d hd => by
      obtain ⟨i, hi, rfl⟩ := rangeD_mem hd
      refine ⟨[.fz (.str x), .fz (.tup (ts.map D.str)), .no, .fz (.int (0 + (i : Nat))), .no], ?_, rfl⟩
      have g : gIx (.tup (ts.map D.str)) (.int (0 + (i : Nat))) = some (.str ts[i]) := by simp [atI, ixN, hi]
      have e : ts.getD (0 + ((i : Nat) : Int)).toNat [] = ts[i] := by simp [List.getD, hi]
      have hs : isd ts[i] = decide (cutL ts[i] none (some 2) = [100, 32]) := by unfold isd; rw [show (some (2 : Int)) = some ((2 : Nat) : Int) from rfl, cutL_b]
      simp only [e]
      rw [hs]
      generalize (0 + ((i : Nat) : Int)) = j at g ⊢
      by_cases hq : cutL ts[i] none (some 2) = [100, 32]
      · simp [-gIx, g, hq, gSl]
      · simp [-gIx, g, hq, gSl]) (by simp [rangeD]; omega)
  have e1 := range_filter (fun d => match d with | .int i => isd (ts.getD i.toNat []) | _ => false) (fun d => match d with | .int i => .int (i + 1) | _ => .non) ts ts [] 0 rfl rfl (fun i hi => by simp) (fun i => rfl)
  rw [show ((0 : Nat) : Int) = 0 by rfl] at e1
  rw [List.nil_append, e1] at key
  have e2 : (dE 0 ts).map (fun n => D.int (Int.ofNat n)) = ((dE 0 ts).map Int.ofNat).map D.int := by rw [List.map_map]; rfl
  rw [e2] at key
  have hlen : (dE 0 ts).length ≤ ts.length := by
    have := (key)
    have hh : ∀ (ts : List (List Nat)) (k : Nat), (dE k ts).length ≤ ts.length := by
      intro ts
      induction ts with
      | nil => intro k; simp [dE]
      | cons t r ih =>
        intro k
        have := ih (k + 1)
        unfold dE
        split <;> simp <;> omega
    exact hh ts 0
  have hm : gMax [.lst (((dE 0 ts).map Int.ofNat).map D.int ++ [.int 0])] = some (.int (dN ts : Nat)) := by
    have e3 : ((dE 0 ts).map Int.ofNat).map D.int ++ [.int 0] = ((dE 0 ts).map Int.ofNat ++ [0]).map D.int := by simp
    rw [e3]
    simp only [gMax, intsD_map, Option.bind_some, dN_max0]
    simp
  have hll : (((dE 0 ts).map Int.ofNat).map D.int).length + 1 ≤ LIM := by
    simp; exact Nat.le_trans (show (dE 0 ts).length + 1 ≤ 802 by omega) (by decide)
  generalize ((dE 0 ts).map Int.ofNat).map D.int = L at key hm hll
  have l1 : -LR ≤ (ts.length : Int) := by unfold LR; omega
  have l2 : (ts.length : Int) ≤ LR := by unfold LR; omega
  have hc := cutL_b (ts.map D.str) (dN ts)
  have hc2 : cutL (ts.map D.str) none (some ((dN ts : Nat) : Int)) = (ts.take (dN ts)).map D.str := by rw [hc, List.map_take]
  rw [← List.map_take] at h2
  generalize ts.take (dN ts) = us at h2 hc2 ⊢
  generalize hE : (strm us).length = e
  have i1 : (1 : Nat) ≤ LIM := by decide
  have i2 : (2 : Nat) ≤ LIM := by decide
  have i3 : (3 : Nat) ≤ LIM := by decide
  have a0 : ∀ (a b : D), atI [a, b] 0 = some a := fun _ _ => rfl
  by_cases h : e < x.length
  · have h' : (e : Int) < x.length := by omega
    simp [F_l_opened, f_l_opened, h1, l1, l2, key, hll, hm, gSl, hc2, h2, hE, i1, i2, i3, h, a0]
  · have h' : ¬ (e : Int) < x.length := by omega
    simp [F_l_opened, f_l_opened, h1, l1, l2, key, hll, hm, gSl, hc2, h2, hE, i1, i2, i3, h, a0]
end LL

namespace LL
open PySem PySem.Spec PyProof.Rows L2 DL
def b_l_well_1 : En → Res Fl :=
  sAs (dBin gMod (dCall gInt (dCons (dBin gAdd (dBin gAdd (dBin gMul (dVar 3) (dC (.int 45013))) (dBin gMod (dCall gInt (dCons (dVar 4) (dNil))) (dC (.int 2147483399)))) (dC (.int 37))) (dNil))) (dC (.int 2147483563))) (gN 3)
theorem eq_l_well : f_l_well =
  sSeq (sAs (dIf (dBo (dBin gLt (dVar 1) (dCall gLen (dCons (dVar 0) (dNil))))) (dCall gInt (dCons (dBin gIx (dVar 0) (dVar 1)) (dNil))) (dBin gAdd (dBin gAdd (dBin gMul (dC (.int 9311)) (dVar 1)) (dBin gMod (dCall gInt (dCons (dCall gSum (dCons (dSl (dVar 0) (dNP) (dPt (dC (.int 2)))) (dNil))) (dNil))) (dC (.int 1000003)))) (dC (.int 71)))) (gN 2)) (sSeq (sAs (dBin gAdd (dC (.int 50021)) (dBin gMul (dC (.int 1013)) (dVar 1))) (gN 3)) (sSeq (sFor (dIt (dBin gAdd (dSl (dVar 0) (dNP) (dPt (dC (.int 5)))) (dFz (dLst (dCons (dVar 2) (dNil)))))) (gN 4) (b_l_well_1)) (sRetF (dLst (dCons (dIf (dOr (dBo (dBin gLt (dVar 2) (dC (.int 0)))) (dBo (dBin gGe (dVar 2) (dBin gPow (dC (.int 10)) (dC (.int 17)))))) (dCall gAbs (dCons (dVar 2) (dNil))) (dC (.int 0))) (dCons (dVar 3) (dCons (dC (.int 0)) (dNil)))))))) := rfl
def b_l_check_1 : En → Res Fl :=
  sAs (dBin gAdd (dVar 2) (dBin gMul (dBin gAdd (dVar 3) (dC (.int 1))) (dBin gAdd (dMt "str" gIndexS (dVar 1) (dCons (dBin gIx (dVar 0) (dVar 3)) (dNil))) (dC (.int 1))))) (gN 2)
theorem eq_l_check : f_l_check =
  sSeq (sAs (dTup (dCons (dC (.str [32, 40, 41, 44, 45, 46, 47, 48, 49, 50, 51, 52, 53, 54, 55, 56, 57, 60, 61, 62, 124, 97, 98, 99, 100, 101, 102, 103, 104, 105, 106, 107, 108, 109, 110, 111, 112, 113, 114, 115, 116, 117, 118, 119, 120, 121, 122])) (dCons (dC (.int 0)) (dNil)))) (gT (gsC (gN 1) (gsC (gN 2) (gs0))))) (sSeq (sFor (dR1 (dCons (dCall gLen (dCons (dVar 0) (dNil))) (dNil))) (gN 3) (b_l_check_1)) (sRet (dBin gMod (dCall gInt (dCons (dVar 2) (dNil))) (dC (.int 997))))) := rfl
def b_behind_writes_1 : En → Res Fl :=
  sSeq (sEx (dCal 2 F_check_write (dCons (dVar 2) (dCons (dVar 3) (dNil))))) (sAs (dCal 2 F_written_by (dCons (dVar 2) (dCons (dVar 3) (dNil)))) (gN 2))
theorem eq_behind_writes : f_behind_writes =
  sSeq (sEx (dCal 1 F_check_signs (dCons (dVar 0) (dNil)))) (sSeq (sIf (dNot (dTr (dIsi "tuple" (dVar 1)))) (sNo) (sNx)) (sSeq (sAs (dVar 0) (gN 2)) (sSeq (sFor (dIt (dVar 1)) (gN 3) (b_behind_writes_1)) (sRet (dVar 2))))) := rfl
def b_frames_by_1 : En → Res Fl :=
  sSeq (sEx (dApp 1 (dVar 3))) (sSeq (sAs (dBin gAdd (dBin gAdd (dVar 2) (dC c_HEAD)) (dCall gLen (dCons (dVar 3) (dNil)))) (gN 2)) (sAs (dCal 2 F_text_at (dCons (dVar 0) (dCons (dVar 2) (dNil)))) (gN 3)))
theorem eq_frames_by : f_frames_by =
  sSeq (sPar [1, 2, 3] (mNw (dLst (dNil)) (mVl (dC (.int 0)) (mVl (dCal 2 F_text_at (dCons (dVar 0) (dCons (dC (.int 0)) (dNil)))) (mNil))))) (sSeq (sWhile (dBo (dBin (gNot gIs) (dVar 3) (dC .non))) (b_frames_by_1) LIM) (sRet (dTup (dCons (dVar 1) (dCons (dVar 2) (dNil)))))) := rfl
def b_l_frames_in_1 : En → Res Fl :=
  sSeq (sAs (dSl (dVar 0) (dPt (dVar 2)) (dPt (dBin gAdd (dVar 2) (dC (.int 7))))) (gN 4)) (sSeq (sIf (dOr (dBo (dBin gLt (dCall gLen (dCons (dVar 4) (dNil))) (dC (.int 7)))) (dBo (dBin gNe (dFz (dLc [5] (dIt (dVar 4)) (gN 5) (dBo (dBin (gNot gIn) (dVar 5) (dC (.str [48, 49, 50, 51, 52, 53, 54, 55, 56, 57])))) (dVar 5))) (dFz (dLst (dNil)))))) (sRet (dTup (dCons (dVar 1) (dCons (dVar 2) (dNil))))) (sNx)) (sSeq (sAs (dCall gInt (dCons (dSl (dVar 4) (dNP) (dPt (dC (.int 4)))) (dNil))) (gN 6)) (sSeq (sAs (dSl (dVar 0) (dPt (dBin gAdd (dVar 2) (dC (.int 7)))) (dPt (dBin gAdd (dBin gAdd (dVar 2) (dC (.int 7))) (dVar 6)))) (gN 7)) (sSeq (sIf (dOr (dBo (dBin gEq (dVar 6) (dC (.int 0)))) (dOr (dBo (dBin gLt (dCall gLen (dCons (dVar 7) (dNil))) (dVar 6))) (dBo (dBin gNe (dFz (dLc [5] (dIt (dVar 7)) (gN 5) (dBo (dBin (gNot gIn) (dVar 5) (dC (.str [32, 40, 41, 44, 45, 46, 47, 48, 49, 50, 51, 52, 53, 54, 55, 56, 57, 60, 61, 62, 124, 97, 98, 99, 100, 101, 102, 103, 104, 105, 106, 107, 108, 109, 110, 111, 112, 113, 114, 115, 116, 117, 118, 119, 120, 121, 122])))) (dVar 5))) (dFz (dLst (dNil))))))) (sRet (dTup (dCons (dVar 1) (dCons (dVar 2) (dNil))))) (sNx)) (sSeq (sIf (dBo (dBin gNe (dCal 2 F_l_digits (dCons (dCal 1 F_l_check (dCons (dVar 7) (dNil))) (dCons (dC (.int 3)) (dNil)))) (dSl (dVar 4) (dPt (dC (.int 4))) (dNP)))) (sRet (dTup (dCons (dVar 1) (dCons (dVar 2) (dNil))))) (sNx)) (sPar [1, 2] (mVl (dBin gAdd (dVar 1) (dTup (dCons (dVar 7) (dNil)))) (mVl (dBin gAdd (dBin gAdd (dVar 2) (dC (.int 7))) (dVar 6)) (mNil)))))))))
theorem eq_l_frames_in : f_l_frames_in =
  sSeq (sAs (dTup (dCons (dTup (dNil)) (dCons (dC (.int 0)) (dNil)))) (gT (gsC (gN 1) (gsC (gN 2) (gs0))))) (sSeq (sFor (dR1 (dCons (dCall gLen (dCons (dVar 0) (dNil))) (dNil))) (gN 3) (b_l_frames_in_1)) (sRet (dTup (dCons (dVar 1) (dCons (dVar 2) (dNil)))))) := rfl
def b_l_right_1 : En → Res Fl :=
  sIf (dBo (dBin gEq (dSl (dBin gIx (dVar 1) (dVar 4)) (dNP) (dPt (dC (.int 2)))) (dC (.str [100, 32])))) (sEx (dApp 3 (dTup (dCons (dBin gAdd (dVar 4) (dC (.int 1))) (dCons (dCall gLen (dCons (dCal 1 F_l_stream (dCons (dSl (dVar 1) (dNP) (dPt (dBin gAdd (dVar 4) (dC (.int 1))))) (dNil))) (dNil))) (dNil)))))) (sNx)
def b_l_right_4 : En → Res Fl :=
  sSeq (sAs (dCal 3 F_torn (dCons (dVar 9) (dCons (dVar 11) (dCons (dVar 10) (dNil))))) (gN 12)) (sIf (dOr (dNot (dTr (dCal 2 F_l_same (dCons (dSl (dCal 1 F_opened (dCons (dVar 12) (dNil))) (dNP) (dPt (dC (.int 2)))) (dCons (dSl (dVar 8) (dNP) (dPt (dC (.int 2)))) (dNil)))))) (dAnd (dBo (dBin gEq (dVar 10) (dC (.int 1)))) (dBo (dBin gNe (dBin gIx (dCal 1 F_opened (dCons (dVar 12) (dNil))) (dC (.int 2))) (dTup (dNil)))))) (sRet (dC (.bl false))) (sNx))
def b_l_right_3 : En → Res Fl :=
  sFor (dIt (dBin gIx (dVar 8) (dC (.int 2)))) (gN 11) (b_l_right_4)
def b_l_right_2 : En → Res Fl :=
  sSeq (sAs (dBin gIx (dFz (dLc [7] (dIt (dVar 3)) (gN 7) (dBo (dBin gLe (dBin gIx (dVar 7) (dC (.int 1))) (dVar 4))) (dVar 7))) (dNeg (dC (.int 1)))) (gT (gsC (gN 5) (gsC (gN 6) (gs0))))) (sSeq (sAs (dTup (dCons (dSl (dVar 1) (dNP) (dPt (dVar 5))) (dCons (dVar 6) (dCons (dIf (dBo (dBin gLt (dVar 6) (dVar 4))) (dTup (dCons (dTup (dCons (dC (.str [99, 117, 116])) (dCons (dVar 6) (dNil)))) (dNil))) (dTup (dNil))) (dNil))))) (gN 8)) (sSeq (sAs (dSl (dVar 2) (dNP) (dPt (dVar 4))) (gN 9)) (sSeq (sIf (dNot (dTr (dCal 2 F_l_same (dCons (dCal 1 F_opened (dCons (dVar 9) (dNil))) (dCons (dVar 8) (dNil)))))) (sRet (dC (.bl false))) (sNx)) (sIf (dBo (dBin gEq (dCal1 1 0 F_l_take (dCons (dC (.int 12)) (dNil))) (dC (.int 0)))) (sSeq (sFor (dIt (dFz (dLst (dCons (dC (.int 0)) (dCons (dC (.int 1)) (dNil)))))) (gN 10) (b_l_right_3)) (sSeq (sAs (dCal 2 F_behind_writes (dCons (dVar 9) (dCons (dBin gIx (dVar 8) (dC (.int 2))) (dNil)))) (gN 13)) (sSeq (sAs (dBin gAdd (dBin gAdd (dVar 13) (dCal 1 F_frame (dCons (dC (.str [109, 32, 116, 32, 48, 32, 48, 49])) (dNil)))) (dCal 1 F_frame (dCons (dC (.str [100, 32, 55, 32, 118, 111, 105, 100, 32, 117])) (dNil)))) (gN 14)) (sIf (dOr (dNot (dTr (dCal 2 F_l_same (dCons (dCal 1 F_opened (dCons (dVar 14) (dNil))) (dCons (dTup (dCons (dBin gAdd (dSl (dVar 1) (dNP) (dPt (dVar 5))) (dTup (dCons (dC (.str [109, 32, 116, 32, 48, 32, 48, 49])) (dCons (dC (.str [100, 32, 55, 32, 118, 111, 105, 100, 32, 117])) (dNil))))) (dCons (dCall gLen (dCons (dVar 14) (dNil))) (dCons (dTup (dNil)) (dNil))))) (dNil)))))) (dBo (dBin gNe (dBin gIx (dCal 1 F_frames_in (dCons (dVar 13) (dNil))) (dC (.int 1))) (dCall gLen (dCons (dVar 13) (dNil)))))) (sRet (dC (.bl false))) (sNx))))) (sNx)))))
def b_l_right_5 : En → Res Fl :=
  sSeq (sAs (dCal1 1 0 F_l_take (dCons (dCall gMax (dCons (dC (.int 1)) (dCons (dCall gLen (dCons (dVar 2) (dNil))) (dNil)))) (dNil))) (gN 4)) (sSeq (sAs (dBin gAdd (dBin gAdd (dBin gAdd (dSl (dVar 2) (dNP) (dPt (dVar 4))) (dCal1 1 0 F_l_pick (dCons (dC (.str [48, 49, 53, 32, 100, 122, 124])) (dNil)))) (dSl (dVar 2) (dPt (dBin gAdd (dVar 4) (dC (.int 1)))) (dNP))) (dCal1 1 0 F_l_pick (dCons (dFz (dLst (dCons (dC (.str [])) (dCons (dC (.str [48])) (dCons (dCal 1 F_l_frame (dCons (dC (.str [111, 32, 116, 32, 49])) (dNil))) (dCons (dBin gAdd (dCal 1 F_l_frame (dCons (dC (.str [100])) (dNil))) (dCal 1 F_l_frame (dCons (dC (.str [100, 32, 49, 32, 120])) (dNil)))) (dNil))))))) (dNil)))) (gN 16)) (sIf (dNot (dTr (dCal 2 F_l_same (dCons (dFz (dLst (dCons (dCal 1 F_opened (dCons (dVar 16) (dNil))) (dCons (dCal 1 F_opened (dLens 0 1 dNil (dCons (dVar 16) (dNil)))) (dNil))))) (dCons (dBin gMul (dFz (dLst (dCons (dCal 1 F_l_opened (dCons (dVar 16) (dNil))) (dNil)))) (dC (.int 2))) (dNil)))))) (sRet (dC (.bl false))) (sNx)))
theorem eq_l_right : f_l_right =
  sSeq (sPar [2, 3] (mVl (dCal 1 F_l_stream (dCons (dVar 1) (dNil))) (mNw (dLst (dCons (dTup (dCons (dC (.int 0)) (dCons (dC (.int 0)) (dNil)))) (dNil))) (mNil)))) (sSeq (sFor (dR1 (dCons (dCall gLen (dCons (dVar 1) (dNil))) (dNil))) (gN 4) (b_l_right_1)) (sSeq (sFor (dR3 (dCons (dC (.int 0)) (dCons (dBin gAdd (dCall gLen (dCons (dVar 2) (dNil))) (dC (.int 1))) (dCons (dBin gAdd (dC (.int 1)) (dBin gDiv (dCall gLen (dCons (dVar 2) (dNil))) (dC (.int 25)))) (dNil))))) (gN 4) (b_l_right_2)) (sSeq (sFor (dR1 (dCons (dC (.int 10)) (dNil))) (gN 15) (b_l_right_5)) (sRet (dC (.bl true)))))) := rfl
def b_law_2 : En → Res Fl :=
  sSeq (sAs (dCall gTuple (dCons (dFz (dLc [5] (dR1 (dCons (dVar 3) (dNil))) (gN 5) (dYes) (dCal1 1 2 F_l_text (dCons (dC (.int 25)) (dNil))))) (dNil))) (gN 4)) (sIf (dOr (dNot (dTr (dCal1 1 2 F_l_right (dCons (dVar 4) (dNil))))) (dNot (dTr (dCal1 1 2 F_l_right (dCons (dBin gAdd (dVar 4) (dTup (dCons (dC (.str [100, 32, 49, 32, 118, 111, 105, 100, 32, 116])) (dCons (dC (.str [103, 32, 116, 32, 48])) (dCons (dC (.str [100, 32, 50])) (dNil)))))) (dNil)))))) (sRet (dC (.bl false))) (sNx))
def b_law_1 : En → Res Fl :=
  sSeq (sAsO (dCalF 2 F_l_well (dCons (dVar 0) (dCons (dVar 1) (dNil)))) 2) (sFor (dIt (dFz (dLst (dCons (dC (.int 0)) (dCons (dC (.int 1)) (dCons (dC (.int 3)) (dCons (dC (.int 6)) (dNil)))))))) (gN 3) (b_law_2))
theorem eq_law : f_law =
  sSeq (sFor (dR1 (dCons (dCall gMax (dCons (dC (.int 2)) (dCons (dCall gMin (dCons (dCall gLen (dCons (dVar 0) (dNil))) (dCons (dC (.int 4)) (dNil)))) (dNil)))) (dNil))) (gN 1) (b_law_1)) (sRet (dC (.bl true))) := rfl
end LL

namespace LL
open PySem PySem.Spec PyProof.Rows L2 DL
theorem at20 (a b : D) : atI [a, b] 0 = some a := rfl
theorem at21 (a b : D) : atI [a, b] 1 = some b := rfl
theorem at30 (a b c : D) : atI [a, b, c] 0 = some a := rfl
theorem at31 (a b c : D) : atI [a, b, c] 1 = some b := rfl
theorem at32 (a b c : D) : atI [a, b, c] 2 = some c := rfl
theorem cut32 (a b c : D) : cutL [a, b, c] none (some 2) = [a, b] := rfl
def wC (e : Nat) : D := .tup [.str [99, 117, 116], .int e]
theorem check_write_cut (x : List Nat) (e : Nat) (h : e ≤ x.length) : F_check_write [.str x, wC e] = .ok (.val .non) [] := by
  have c1 : c_CUT = .str [99, 117, 116] := rfl
  have h1 : (e : Int) ≤ x.length := by omega
  simp [F_check_write, f_check_write, F_is_write_of, f_is_write_of, F_is_tuple_of, f_is_tuple_of, F_is_between, f_is_between, F_is_whole, f_is_whole, isi, D.ty, wC, at20, at21, c1, h]
theorem torn_by_cut (x : List Nat) (e n : Nat) : F_torn_by [.str x, wC e, .int n] = .ok (.val (.str (if n = 0 then x else x.take e))) [] := by
  have c2 : c_ADD = .str [97, 100, 100] := rfl
  have hc := cutL_b x e
  by_cases h : n = 0
  · subst h
    simp [F_torn_by, f_torn_by, wC, at20, at21, c2]
  · have h' : 0 < n := by omega
    simp [F_torn_by, f_torn_by, wC, at20, at21, c2, h, h', gSl, hc]
theorem signs_of_cut (e : Nat) : F_signs_of [wC e] = .ok (.val (.int 1)) [] := by
  have c2 : c_ADD = .str [97, 100, 100] := rfl
  simp [F_signs_of, f_signs_of, wC, at20, c2]
theorem torn_cut (x : List Nat) (hl : x.length ≤ LIM) (hx : Sig x) (e n : Nat) (h : e ≤ x.length) (hn : n ≤ 1) : F_torn [.str x, wC e, .int n] = .ok (.val (.str (if n = 0 then x else x.take e))) [] := by
  have h1 := check_signs_ok x hl hx
  have h2 := check_write_cut x e h
  have h3 := torn_by_cut x e n
  have h4 := signs_of_cut e
  have h5 : (n : Int) ≤ 1 := by omega
  simp [F_torn, f_torn, F_check_between, f_check_between, F_is_between, f_is_between, F_is_whole, f_is_whole, isi, D.ty, h1, h2, h3, h4, h5, hn]
theorem behind_nil (x : List Nat) (hl : x.length ≤ LIM) (hx : Sig x) : F_behind_writes [.str x, .tup []] = .ok (.val (.str x)) [] := by
  have h1 := check_signs_ok x hl hx
  simp [F_behind_writes, f_behind_writes, isi, D.ty, h1, itemsD, sLoop]
theorem behind_cut (x : List Nat) (hl : x.length ≤ LIM) (hx : Sig x) (e : Nat) (h : e ≤ x.length) : F_behind_writes [.str x, .tup [wC e]] = .ok (.val (.str (x.take e))) [] := by
  have h1 := check_signs_ok x hl hx
  have h2 := check_write_cut x e h
  have h3 := torn_by_cut x e 1
  have h4 := signs_of_cut e
  have h5 : F_written_by [.str x, wC e] = .ok (.val (.str (x.take e))) [] := by
    simp at h3
    simp [F_written_by, f_written_by, h3, h4]
  simp [F_behind_writes, f_behind_writes, isi, D.ty, h1, h2, h5, itemsD, sLoop]
/-! ### streams -/
theorem strm_app (a b : List (List Nat)) : strm (a ++ b) = strm a ++ strm b := by simp [strm]
theorem strm_take_at (ts : List (List Nat)) (n : Nat) : (strm ts).take (strm (ts.take n)).length = strm (ts.take n) := by
  have e : strm ts = strm (ts.take n) ++ strm (ts.drop n) := by rw [← strm_app, List.take_append_drop]
  conv => lhs; rw [e]
  rw [List.take_left' rfl]
theorem ens_cut (ts : List (List Nat)) (ht : ∀ t ∈ ts, Txt t) (k : Nat) : ens ((strm ts).take k) = ts.take (cutN ts k) := by
  have h := parse_strm ts k [] (((strm ts).take k).length + 1) ht (by simp)
  rw [List.nil_append, List.length_nil] at h
  unfold ens
  rw [h]
theorem ens_whole (us : List (List Nat)) (ht : ∀ t ∈ us, Txt t) : ens (strm us) = us := by
  have h := ens_cut us ht (strm us).length
  have h2 := cutN_take us us.length (Nat.le_refl _)
  rw [List.take_length] at h2 h
  rw [h, h2, List.take_length]
theorem opD_whole (us : List (List Nat)) (ht : ∀ t ∈ us, Txt t) (hn : dN us = us.length) : opD (strm us) = .tup [.tup (us.map D.str), .int (strm us).length, .tup []] := by
  unfold opD
  rw [ens_whole us ht, hn, List.take_length, if_neg (Nat.lt_irrefl _)]
/-- how many notes a log that is cut at k opens to -/
def nN (ts : List (List Nat)) (k : Nat) : Nat := dN (ts.take (cutN ts k))
theorem nN_le (ts : List (List Nat)) (k : Nat) : nN ts k ≤ cutN ts k := by
  have := dN_le (ts.take (cutN ts k))
  rw [List.length_take] at this
  unfold nN; omega
theorem nN_take (ts : List (List Nat)) (k : Nat) : (ts.take (cutN ts k)).take (nN ts k) = ts.take (nN ts k) := by
  rw [List.take_take, Nat.min_eq_left (nN_le ts k)]
theorem nN_end (ts : List (List Nat)) (k : Nat) : (strm (ts.take (nN ts k))).length ≤ k := (strm_le ts k (nN ts k) (Nat.le_trans (nN_le ts k) (cutN_le ts k))).mpr (nN_le ts k)
theorem nN_dN (ts : List (List Nat)) (k : Nat) : dN (ts.take (nN ts k)) = (ts.take (nN ts k)).length := by
  have h := dN_take (ts.take (cutN ts k))
  have e : dN (ts.take (cutN ts k)) = nN ts k := rfl
  rw [e, nN_take] at h
  rw [h, List.length_take]
  have := nN_le ts k
  have := cutN_le ts k
  omega
def duD (ts : List (List Nat)) (k : Nat) : D := .tup [.tup ((ts.take (nN ts k)).map D.str), .int (strm (ts.take (nN ts k))).length, .tup (if (strm (ts.take (nN ts k))).length < k then [wC (strm (ts.take (nN ts k))).length] else [])]
theorem opD_cut (ts : List (List Nat)) (ht : ∀ t ∈ ts, Txt t) (k : Nat) (hk : k ≤ (strm ts).length) : opD ((strm ts).take k) = duD ts k := by
  have e : ((strm ts).take k).length = k := by rw [List.length_take]; omega
  unfold opD duD
  rw [ens_cut ts ht k, e]
  have e2 : dN (ts.take (cutN ts k)) = nN ts k := rfl
  rw [e2, nN_take]
  rfl
theorem dE_snoc : ∀ (us : List (List Nat)) (k : Nat) (t : List Nat), dE k (us ++ [t]) = dE k us ++ (if isd t then [k + us.length + 1] else [])
  | [], k, t => by simp [dE]
  | u :: r, k, t => by
    have ih := dE_snoc r (k + 1) t
    rw [List.cons_append]
    unfold dE
    rw [ih, List.length_cons, show k + 1 + r.length + 1 = k + (r.length + 1) + 1 by omega]
    split <;> simp
theorem lst0_snoc {α : Type} : ∀ (l : List α) (a b : α), lst0 a (l ++ [b]) = b
  | [], _, _ => rfl
  | c :: r, a, b => lst0_snoc r c b
theorem dN_snoc (us : List (List Nat)) (t : List Nat) (h : isd t = true) : dN (us ++ [t]) = us.length + 1 := by
  unfold dN
  rw [dE_snoc, if_pos h, lst0_snoc]
  omega
theorem Sm_op (us : List (List Nat)) (hu : us.length ≤ 1000) (e e2 : Nat) (w : List D) (hw : w = [] ∨ w = [wC e2]) : Sm 5 (.tup [.tup (us.map D.str), .int e, .tup w]) := by
  refine ⟨by simp, fun d hd => ?_⟩
  simp only [List.mem_cons, List.not_mem_nil, or_false] at hd
  rcases hd with rfl | rfl | rfl
  · exact Sm_strs 2 us hu
  · trivial
  · rcases hw with rfl | rfl
    · exact ⟨by simp, fun d hd => by cases hd⟩
    · refine ⟨by simp, fun d hd => ?_⟩
      simp only [List.mem_cons, List.not_mem_nil, or_false] at hd
      subst hd
      refine ⟨by simp, fun d hd => ?_⟩
      simp only [List.mem_cons, List.not_mem_nil, or_false] at hd
      rcases hd with rfl | rfl <;> trivial
theorem Sm_op2 (us : List (List Nat)) (hu : us.length ≤ 1000) (e : Nat) : Sm 5 (.tup [.tup (us.map D.str), .int e]) := by
  refine ⟨by simp, fun d hd => ?_⟩
  simp only [List.mem_cons, List.not_mem_nil, or_false] at hd
  rcases hd with rfl | rfl
  · exact Sm_strs 2 us hu
  · trivial
/-! ### the loop over the writes -/
theorem r4_body (us : List (List Nat)) (hu : us.length ≤ 1000) (e : Nat) (w w2 : List D) (cut here : List Nat) (num : Int) (hT : F_torn [.str cut, wC e, .int num] = .ok (.val (.str here)) []) (hO : F_opened [.str here] = .ok (.val (.tup [.tup (us.map D.str), .int e, .tup w2])) [])
    (hw : num = 1 → w2 = []) (a0 a1 a2 a3 a4 a5 a6 a7 a12 a13 a14 a15 a16 : Sl) :
    b_l_right_4 [a0, a1, a2, a3, a4, a5, a6, a7, .fz (.tup [.tup (us.map D.str), .int e, .tup w]), .fz (.str cut), .fz (.int num), .fz (wC e), a12, a13, a14, a15, a16]
      = .ok .nx [a0, a1, a2, a3, a4, a5, a6, a7, .fz (.tup [.tup (us.map D.str), .int e, .tup w]), .fz (.str cut), .fz (.int num), .fz (wC e), .fz (.str here), a13, a14, a15, a16] := by
  have hS : F_l_same [.tup [.tup (us.map D.str), .int e], .tup [.tup (us.map D.str), .int e]] = .ok (.val (.bl true)) [] := same_refl 5 _ (Sm_op2 us hu e)
  have g0 : gNe (.tup []) (.tup []) = some (.bl false) := rfl
  by_cases h : num = 1
  · have := hw h
    subst this
    subst h
    simp [b_l_right_4, hT, hO, hS, gSl, cut32, at32, g0]
  · simp [b_l_right_4, hT, hO, hS, gSl, cut32, at32, h]
end LL

namespace LL
open PySem PySem.Spec PyProof.Rows L2 DL
def r2E : En → Res Fl :=
  sSeq (sFor (dIt (dFz (dLst (dCons (dC (.int 0)) (dCons (dC (.int 1)) (dNil)))))) (gN 10) (b_l_right_3)) (sSeq (sAs (dCal 2 F_behind_writes (dCons (dVar 9) (dCons (dBin gIx (dVar 8) (dC (.int 2))) (dNil)))) (gN 13)) (sSeq (sAs (dBin gAdd (dBin gAdd (dVar 13) (dCal 1 F_frame (dCons (dC (.str [109, 32, 116, 32, 48, 32, 48, 49])) (dNil)))) (dCal 1 F_frame (dCons (dC (.str [100, 32, 55, 32, 118, 111, 105, 100, 32, 117])) (dNil)))) (gN 14)) (sIf (dOr (dNot (dTr (dCal 2 F_l_same (dCons (dCal 1 F_opened (dCons (dVar 14) (dNil))) (dCons (dTup (dCons (dBin gAdd (dSl (dVar 1) (dNP) (dPt (dVar 5))) (dTup (dCons (dC (.str [109, 32, 116, 32, 48, 32, 48, 49])) (dCons (dC (.str [100, 32, 55, 32, 118, 111, 105, 100, 32, 117])) (dNil))))) (dCons (dCall gLen (dCons (dVar 14) (dNil))) (dCons (dTup (dNil)) (dNil))))) (dNil)))))) (dBo (dBin gNe (dBin gIx (dCal 1 F_frames_in (dCons (dVar 13) (dNil))) (dC (.int 1))) (dCall gLen (dCons (dVar 13) (dNil)))))) (sRet (dC (.bl false))) (sNx))))
theorem r2_eq : b_l_right_2 =
  sSeq (sAs (dBin gIx (dFz (dLc [7] (dIt (dVar 3)) (gN 7) (dBo (dBin gLe (dBin gIx (dVar 7) (dC (.int 1))) (dVar 4))) (dVar 7))) (dNeg (dC (.int 1)))) (gT (gsC (gN 5) (gsC (gN 6) (gs0))))) (sSeq (sAs (dTup (dCons (dSl (dVar 1) (dNP) (dPt (dVar 5))) (dCons (dVar 6) (dCons (dIf (dBo (dBin gLt (dVar 6) (dVar 4))) (dTup (dCons (dTup (dCons (dC (.str [99, 117, 116])) (dCons (dVar 6) (dNil)))) (dNil))) (dTup (dNil))) (dNil))))) (gN 8)) (sSeq (sAs (dSl (dVar 2) (dNP) (dPt (dVar 4))) (gN 9)) (sSeq (sIf (dNot (dTr (dCal 2 F_l_same (dCons (dCal 1 F_opened (dCons (dVar 9) (dNil))) (dCons (dVar 8) (dNil)))))) (sRet (dC (.bl false))) (sNx)) (sIf (dBo (dBin gEq (dCal1 1 0 F_l_take (dCons (dC (.int 12)) (dNil))) (dC (.int 0)))) r2E (sNx))))) := rfl
def qa : List Nat := [109, 32, 116, 32, 48, 32, 48, 49]
def qb : List Nat := [100, 32, 55, 32, 118, 111, 105, 100, 32, 117]
theorem qa_txt : Txt qa := ⟨by decide, by decide, by decide⟩
theorem qb_txt : Txt qb := ⟨by decide, by decide, by decide⟩
theorem frames_whole (us : List (List Nat)) (ht : ∀ t ∈ us, Txt t) (hl : (strm us).length + 2 ≤ LIM) : F_frames_in [.str (strm us)] = .ok (.val (.tup [.tup (us.map D.str), .int (strm us).length])) [] := by
  have h := frames_in_ok (strm us) hl (fun c hc => SG_AL (strm_SG us ht c hc))
  have h1 := parse_strm us (strm us).length [] ((strm us).length + 1) ht (by simp)
  have h2 := cutN_take us us.length (Nat.le_refl _)
  rw [List.take_length] at h2
  rw [List.nil_append, List.length_nil, h2, List.take_length, List.take_length, Nat.zero_add] at h1
  rw [h1] at h
  exact h
theorem r2E_ok (ts : List (List Nat)) (ht : ∀ t ∈ ts, Txt t) (hl : ts.length ≤ 900) (hs : (strm ts).length ≤ 1000000) (k : Nat) (hk : k ≤ (strm ts).length) (a0 a2 a3 a4 a6 a7 a10 a11 a12 a13 a14 a15 a16 : Sl) :
    ∃ b10 b11 b12 b13 b14, r2E [a0, .fz (.tup (ts.map D.str)), a2, a3, a4, .fz (.int (nN ts k)), a6, a7, .fz (duD ts k), .fz (.str ((strm ts).take k)), a10, a11, a12, a13, a14, a15, a16]
      = .ok .nx [a0, .fz (.tup (ts.map D.str)), a2, a3, a4, .fz (.int (nN ts k)), a6, a7, .fz (duD ts k), .fz (.str ((strm ts).take k)), b10, b11, b12, b13, b14, a15, a16] := by
  have hsig := strm_SG ts ht
  have hcs : Sig ((strm ts).take k) := fun c hc => hsig c (List.mem_of_mem_take hc)
  have hcl : ((strm ts).take k).length = k := by rw [List.length_take]; omega
  have hL : k + 2 ≤ LIM := Nat.le_trans (show k + 2 ≤ 1000002 by omega) (by decide)
  have htu : ∀ t ∈ ts.take (nN ts k), Txt t := fun t h => ht t (List.mem_of_mem_take h)
  have hul : (ts.take (nN ts k)).length ≤ 900 := by rw [List.length_take]; omega
  have hee := nN_end ts k
  have hta := strm_take_at ts (nN ts k)
  have hdn := nN_dN ts k
  have hto : (ts.map D.str).take (nN ts k) = (ts.take (nN ts k)).map D.str := List.map_take.symm
  have hO1 := opened_ok ((strm ts).take k) (by rw [hcl]; exact hL) hcs
  rw [opD_cut ts ht k hk] at hO1
  unfold duD at hO1 ⊢
  generalize hus : ts.take (nN ts k) = us at *
  have hcc : ((strm ts).take k).take (strm us).length = strm us := by rw [List.take_take, Nat.min_eq_left hee, hta]
  have hus2 : Sig (strm us) := strm_SG us htu
  have hO2 := opened_ok (strm us) (by omega) hus2
  rw [opD_whole us htu hdn] at hO2
  have hF := frames_whole us htu (by omega)
  have f1 := frame_ok qa qa_txt
  have f2 := frame_ok qb qb_txt
  have hm : strm us ++ frm qa ++ frm qb = strm (us ++ [qa, qb]) := by rw [strm_app]; simp [strm]
  have htm : ∀ t ∈ us ++ [qa, qb], Txt t := fun t h => by
    simp only [List.mem_append, List.mem_cons, List.not_mem_nil, or_false] at h
    rcases h with h | rfl | rfl
    · exact htu t h
    · exact qa_txt
    · exact qb_txt
  have hdm : dN (us ++ [qa, qb]) = (us ++ [qa, qb]).length := by
    have : us ++ [qa, qb] = (us ++ [qa]) ++ [qb] := by simp
    rw [this, dN_snoc _ _ (by decide)]
    simp
  have hml : (strm (us ++ [qa, qb])).length + 2 ≤ LIM := by
    rw [← hm, List.length_append, List.length_append, frm_len, frm_len]
    have a1 : qa.length = 8 := rfl
    have a2 : qb.length = 10 := rfl
    rw [a1, a2]
    exact Nat.le_trans (show (strm us).length + (7 + 8) + (7 + 10) + 2 ≤ 1000100 by omega) (by decide)
  have hO3 := opened_ok (strm (us ++ [qa, qb])) hml (strm_SG _ htm)
  rw [opD_whole _ htm hdm] at hO3
  have hS3 : F_l_same [.tup [.tup ((us ++ [qa, qb]).map D.str), .int (strm (us ++ [qa, qb])).length, .tup []], .tup [.tup ((us ++ [qa, qb]).map D.str), .int (strm (us ++ [qa, qb])).length, .tup []]] = .ok (.val (.bl true)) [] := same_refl 5 _ (Sm_op (us ++ [qa, qb]) (by simp; omega) _ 0 [] (.inl rfl))
  have em : (us ++ [qa, qb]).map D.str = us.map D.str ++ [.str qa, .str qb] := by simp
  rw [em] at hO3 hS3
  have q1 : (strm us).length + (frm qa).length ≤ LIM := by
    rw [← hm, List.length_append, List.length_append] at hml; omega
  have q2 : (strm us).length + (frm qa).length + (frm qb).length ≤ LIM := by
    rw [← hm, List.length_append, List.length_append] at hml; omega
  have q3 : us.length + 2 ≤ LIM := Nat.le_trans (show us.length + 2 ≤ 902 by omega) (by decide)
  have i2 : (2 : Nat) ≤ LIM := by decide
  have i3 : (3 : Nat) ≤ LIM := by decide
  have hcu : cutL (ts.map D.str) none (some ((nN ts k : Nat) : Int)) = us.map D.str := by rw [cutL_b, hto]
  have e1 : F_frame [.str [109, 32, 116, 32, 48, 32, 48, 49]] = .ok (.val (.str (frm qa))) [] := f1
  have e2 : F_frame [.str [100, 32, 55, 32, 118, 111, 105, 100, 32, 117]] = .ok (.val (.str (frm qb))) [] := f2
  have u1 : D.str [109, 32, 116, 32, 48, 32, 48, 49] = .str qa := rfl
  have u2 : D.str [100, 32, 55, 32, 118, 111, 105, 100, 32, 117] = .str qb := rfl
  -- the end, from where the loop is over
  have fin : ∀ (W : List D) (b10 b11 b12 : Sl), F_behind_writes [.str ((strm ts).take k), .tup W] = .ok (.val (.str (strm us))) [] →
      (sSeq (sAs (dCal 2 F_behind_writes (dCons (dVar 9) (dCons (dBin gIx (dVar 8) (dC (.int 2))) (dNil)))) (gN 13)) (sSeq (sAs (dBin gAdd (dBin gAdd (dVar 13) (dCal 1 F_frame (dCons (dC (.str [109, 32, 116, 32, 48, 32, 48, 49])) (dNil)))) (dCal 1 F_frame (dCons (dC (.str [100, 32, 55, 32, 118, 111, 105, 100, 32, 117])) (dNil)))) (gN 14)) (sIf (dOr (dNot (dTr (dCal 2 F_l_same (dCons (dCal 1 F_opened (dCons (dVar 14) (dNil))) (dCons (dTup (dCons (dBin gAdd (dSl (dVar 1) (dNP) (dPt (dVar 5))) (dTup (dCons (dC (.str [109, 32, 116, 32, 48, 32, 48, 49])) (dCons (dC (.str [100, 32, 55, 32, 118, 111, 105, 100, 32, 117])) (dNil))))) (dCons (dCall gLen (dCons (dVar 14) (dNil))) (dCons (dTup (dNil)) (dNil))))) (dNil)))))) (dBo (dBin gNe (dBin gIx (dCal 1 F_frames_in (dCons (dVar 13) (dNil))) (dC (.int 1))) (dCall gLen (dCons (dVar 13) (dNil)))))) (sRet (dC (.bl false))) (sNx))))
        [a0, .fz (.tup (ts.map D.str)), a2, a3, a4, .fz (.int (nN ts k)), a6, a7, .fz (.tup [.tup (us.map D.str), .int (strm us).length, .tup W]), .fz (.str ((strm ts).take k)), b10, b11, b12, a13, a14, a15, a16]
      = .ok .nx [a0, .fz (.tup (ts.map D.str)), a2, a3, a4, .fz (.int (nN ts k)), a6, a7, .fz (.tup [.tup (us.map D.str), .int (strm us).length, .tup W]), .fz (.str ((strm ts).take k)), b10, b11, b12, .fz (.str (strm us)), .fz (.str (strm (us ++ [qa, qb]))), a15, a16] := by
    intro W b10 b11 b12 hB
    rw [u1, u2] at *
    simp only [sSeq, sAs, sIf, dOr, dNot, dTr, dCal, dBo, dBin, dCons, dNil, dVar, dC, dTup, dSl, dNP, dPt, dCall, sNx, sRet]
    simp [hB, at32, at21, f1, f2, q1, q2, hm, hO3, gSl, hcu, q3, i2, i3, hS3, hF]
  unfold r2E
  by_cases hlt : (strm us).length < k
  · rw [if_pos hlt] at hO1 ⊢
    have hT0 := torn_cut ((strm ts).take k) (by omega) hcs (strm us).length 0 (by omega) (by omega)
    have hT1 := torn_cut ((strm ts).take k) (by omega) hcs (strm us).length 1 (by omega) (by omega)
    rw [if_neg (by omega), hcc] at hT1
    rw [if_pos rfl] at hT0
    have hB := behind_cut ((strm ts).take k) (by omega) hcs (strm us).length (by omega)
    rw [hcc] at hB
    have b0 := r4_body us (by omega) (strm us).length [wC (strm us).length] _ ((strm ts).take k) _ 0 hT0 hO1 (by omega) a0 (.fz (.tup (ts.map D.str))) a2 a3 a4 (.fz (.int (nN ts k))) a6 a7 a12 a13 a14 a15 a16
    have b1 := r4_body us (by omega) (strm us).length [wC (strm us).length] _ ((strm ts).take k) _ 1 hT1 hO2 (fun _ => rfl) a0 (.fz (.tup (ts.map D.str))) a2 a3 a4 (.fz (.int (nN ts k))) a6 a7 (.fz (.str ((strm ts).take k))) a13 a14 a15 a16
    have fn := fin [wC (strm us).length] (.fz (.int 1)) (.fz (wC (strm us).length)) (.fz (.str (strm us))) hB
    refine ⟨.fz (.int 1), .fz (wC (strm us).length), .fz (.str (strm us)), .fz (.str (strm us)), .fz (.str (strm (us ++ [qa, qb]))), ?_⟩
    rw [sSeq]
    have hloop : sFor (dIt (dFz (dLst (dCons (dC (.int 0)) (dCons (dC (.int 1)) (dNil)))))) (gN 10) (b_l_right_3) [a0, .fz (.tup (ts.map D.str)), a2, a3, a4, .fz (.int (nN ts k)), a6, a7, .fz (.tup [.tup (us.map D.str), .int (strm us).length, .tup [wC (strm us).length]]), .fz (.str ((strm ts).take k)), a10, a11, a12, a13, a14, a15, a16]
        = .ok .nx [a0, .fz (.tup (ts.map D.str)), a2, a3, a4, .fz (.int (nN ts k)), a6, a7, .fz (.tup [.tup (us.map D.str), .int (strm us).length, .tup [wC (strm us).length]]), .fz (.str ((strm ts).take k)), .fz (.int 1), .fz (wC (strm us).length), .fz (.str (strm us)), a13, a14, a15, a16] := by
      simp [i2, itemsD, sLoop, b_l_right_3, at32, b0, b1]
    rw [hloop]
    exact fn
  · rw [if_neg hlt] at hO1 ⊢
    have hek : (strm us).length = k := by omega
    have hcu2 : (strm ts).take k = strm us := by rw [← hek]; exact hta
    have hB := behind_nil ((strm ts).take k) (by omega) hcs
    rw [hcu2] at hB
    have fn := fin [] (.fz (.int 1)) a11 a12 (by rw [hcu2]; exact hB)
    refine ⟨.fz (.int 1), a11, a12, .fz (.str (strm us)), .fz (.str (strm (us ++ [qa, qb]))), ?_⟩
    rw [sSeq]
    have hloop : sFor (dIt (dFz (dLst (dCons (dC (.int 0)) (dCons (dC (.int 1)) (dNil)))))) (gN 10) (b_l_right_3) [a0, .fz (.tup (ts.map D.str)), a2, a3, a4, .fz (.int (nN ts k)), a6, a7, .fz (.tup [.tup (us.map D.str), .int (strm us).length, .tup []]), .fz (.str ((strm ts).take k)), a10, a11, a12, a13, a14, a15, a16]
        = .ok .nx [a0, .fz (.tup (ts.map D.str)), a2, a3, a4, .fz (.int (nN ts k)), a6, a7, .fz (.tup [.tup (us.map D.str), .int (strm us).length, .tup []]), .fz (.str ((strm ts).take k)), .fz (.int 1), a11, a12, a13, a14, a15, a16] := by
      simp [i2, itemsD, sLoop, b_l_right_3, at32]
    rw [hloop]
    exact fn
end LL

namespace LL
open PySem PySem.Spec PyProof.Rows L2 DL
def fE (ts : List (List Nat)) (j : Nat) : D := .tup [.int j, .int (strm (ts.take j)).length]
def eK (ts : List (List Nat)) (m : Nat) : List D := fE ts 0 :: (dE 0 (ts.take m)).map (fE ts)
theorem eK_last (ts : List (List Nat)) (m : Nat) : atI (eK ts m) (-1) = some (fE ts (dN (ts.take m))) := by
  unfold eK
  rw [DL.atI_last, lst0_map]; rfl
theorem eK_len (ts : List (List Nat)) (m : Nat) : (eK ts m).length ≤ ts.length + 1 := by
  have hh : ∀ (ts : List (List Nat)) (k : Nat), (dE k ts).length ≤ ts.length := by
    intro ts
    induction ts with
    | nil => intro k; simp [dE]
    | cons t r ih =>
      intro k
      have := ih (k + 1)
      unfold dE
      split <;> simp <;> omega
  have := hh (ts.take m) 0
  rw [List.length_take] at this
  simp [eK]; omega
theorem eK_mem (ts : List (List Nat)) (m : Nat) {d : D} (h : d ∈ eK ts m) : ∃ j, d = fE ts j := by
  rcases List.mem_cons.mp h with e | e
  · exact ⟨0, e⟩
  · rw [List.mem_map] at e
    obtain ⟨j, _, e⟩ := e
    exact ⟨j, e.symm⟩
theorem cmp2 (ts : List (List Nat)) (hl : ts.length ≤ 900) (k : Nat) (a0 a1 a2 a3 a5 a6 a8 a9 a10 a11 a12 a13 a14 a15 a16 : Sl) :
    lcLoop [7] (dTurn (gN 7) (dBo (dBin gLe (dBin gIx (dVar 7) (dC (.int 1))) (dVar 4))) (dVar 7)) (eK ts ts.length) [] [a0, a1, a2, a3, .fz (.int k), a5, a6, .no, a8, a9, a10, a11, a12, a13, a14, a15, a16]
      = .ok (eK ts (cutN ts k)) [a0, a1, a2, a3, .fz (.int k), a5, a6, .no, a8, a9, a10, a11, a12, a13, a14, a15, a16] := by
  have h := lc_filter (vs := [7]) (turn := dTurn (gN 7) (dBo (dBin gLe (dBin gIx (dVar 7) (dC (.int 1))) (dVar 4))) (dVar 7)) (ρ := [a0, a1, a2, a3, .fz (.int k), a5, a6, .no, a8, a9, a10, a11, a12, a13, a14, a15, a16])
    (fun d => match d with | .tup [_, .int e] => decide (e ≤ (k : Int)) | _ => false) id (items := eK ts ts.length) (acc := []) (fun d hd => by
      obtain ⟨j, rfl⟩ := eK_mem _ _ hd
      refine ⟨[a0, a1, a2, a3, .fz (.int k), a5, a6, .fz (fE ts j), a8, a9, a10, a11, a12, a13, a14, a15, a16], ?_, rfl⟩
      unfold fE
      by_cases h : (strm (ts.take j)).length ≤ k
      · have h' : ((strm (ts.take j)).length : Int) ≤ k := by omega
        simp [at21, h]
      · have h' : ¬ ((strm (ts.take j)).length : Int) ≤ k := by omega
        simp [at21, h]) (by have := eK_len ts ts.length; simp; exact Nat.le_trans (show (eK ts ts.length).length ≤ 901 by omega) (by decide))
  rw [h, List.nil_append, List.map_id]
  congr 1
  unfold eK
  rw [List.take_length, List.filter_cons_of_pos (by simp [fE, strm]), List.filter_map, dE_take ts 0 (cutN ts k)]
  congr 2
  apply List.filter_congr
  intro y hy
  have h1 := (dE_in _ _ _ hy).2
  have h2 := strm_le ts k y (by omega)
  simp only [Function.comp, fE]
  have : (((strm (ts.take y)).length : Int) ≤ (k : Int)) ↔ (strm (ts.take y)).length ≤ k := by omega
  simp only [Nat.zero_add, this, h2]
theorem r2_body (ts : List (List Nat)) (ht : ∀ t ∈ ts, Txt t) (hl : ts.length ≤ 900) (hs : (strm ts).length ≤ 1000000) (k : Nat) (hk : k ≤ (strm ts).length) (w : List D) (hw : Well w) (s3 : Sl) (h3 : s3 = .ow (eK ts ts.length) ∨ s3 = .fz (.lst (eK ts ts.length))) (a5 a6 a8 a9 a10 a11 a12 a13 a14 a15 a16 : Sl) :
    ∃ w' b5 b6 b8 b9 b10 b11 b12 b13 b14, Well w' ∧ b_l_right_2 [.pw w, .fz (.tup (ts.map D.str)), .fz (.str (strm ts)), s3, .fz (.int k), a5, a6, .no, a8, a9, a10, a11, a12, a13, a14, a15, a16]
      = .ok .nx [.pw w', .fz (.tup (ts.map D.str)), .fz (.str (strm ts)), .fz (.lst (eK ts ts.length)), .fz (.int k), b5, b6, .no, b8, b9, b10, b11, b12, b13, b14, a15, a16] := by
  have hsig := strm_SG ts ht
  have hcs : Sig ((strm ts).take k) := fun c hc => hsig c (List.mem_of_mem_take hc)
  have hcl : ((strm ts).take k).length = k := by rw [List.length_take]; omega
  have hL : k + 2 ≤ LIM := Nat.le_trans (show k + 2 ≤ 1000002 by omega) (by decide)
  have hO := opened_ok ((strm ts).take k) (by rw [hcl]; exact hL) hcs
  rw [opD_cut ts ht k hk] at hO
  have hul : (ts.take (nN ts k)).length ≤ 900 := by rw [List.length_take]; omega
  have hS : F_l_same [duD ts k, duD ts k] = .ok (.val (.bl true)) [] := by
    refine same_refl 5 _ (Sm_op _ (by omega) _ (strm (ts.take (nN ts k))).length _ ?_)
    split
    · exact .inr rfl
    · exact .inl rfl
  obtain ⟨r, w', hw', r0, r1, hT⟩ := take_ok hw (m := 12) (by omega) (by omega)
  have hc := cmp2 ts hl k (.pw w) (.fz (.tup (ts.map D.str))) (.fz (.str (strm ts))) (.fz (.lst (eK ts ts.length))) a5 a6 a8 a9 a10 a11 a12 a13 a14 a15 a16
  have hla := eK_last ts (cutN ts k)
  have hnn : dN (ts.take (cutN ts k)) = nN ts k := rfl
  rw [hnn] at hla
  generalize eK ts (cutN ts k) = E2 at hc hla
  generalize hE1 : eK ts ts.length = E1 at *
  have hcu : cutL (ts.map D.str) none (some ((nN ts k : Nat) : Int)) = (ts.take (nN ts k)).map D.str := by rw [cutL_b, List.map_take]
  have hcu2 := cutL_b (strm ts) k
  have i1 : (1 : Nat) ≤ LIM := by decide
  have i2 : (2 : Nat) ≤ LIM := by decide
  have i3 : (3 : Nat) ≤ LIM := by decide
  have hdu : duD ts k = .tup [.tup ((ts.take (nN ts k)).map D.str), .int (strm (ts.take (nN ts k))).length, .tup (if (strm (ts.take (nN ts k))).length < k then [wC (strm (ts.take (nN ts k))).length] else [])] := rfl
  have hf : fE ts (nN ts k) = .tup [.int (nN ts k), .int (strm (ts.take (nN ts k))).length] := rfl
  rw [hf] at hla
  have st1 : sAs (dBin gIx (dFz (dLc [7] (dIt (dVar 3)) (gN 7) (dBo (dBin gLe (dBin gIx (dVar 7) (dC (.int 1))) (dVar 4))) (dVar 7))) (dNeg (dC (.int 1)))) (gT (gsC (gN 5) (gsC (gN 6) (gs0)))) [.pw w, .fz (.tup (ts.map D.str)), .fz (.str (strm ts)), s3, .fz (.int k), a5, a6, .no, a8, a9, a10, a11, a12, a13, a14, a15, a16]
      = .ok .nx [.pw w, .fz (.tup (ts.map D.str)), .fz (.str (strm ts)), .fz (.lst E1), .fz (.int k), .fz (.int (nN ts k)), .fz (.int (strm (ts.take (nN ts k))).length), .no, a8, a9, a10, a11, a12, a13, a14, a15, a16] := by
    rcases h3 with rfl | rfl <;> simp [itemsD, hc, hla]
  have st2 : sAs (dTup (dCons (dSl (dVar 1) (dNP) (dPt (dVar 5))) (dCons (dVar 6) (dCons (dIf (dBo (dBin gLt (dVar 6) (dVar 4))) (dTup (dCons (dTup (dCons (dC (.str [99, 117, 116])) (dCons (dVar 6) (dNil)))) (dNil))) (dTup (dNil))) (dNil))))) (gN 8) [.pw w, .fz (.tup (ts.map D.str)), .fz (.str (strm ts)), .fz (.lst E1), .fz (.int k), .fz (.int (nN ts k)), .fz (.int (strm (ts.take (nN ts k))).length), .no, a8, a9, a10, a11, a12, a13, a14, a15, a16]
      = .ok .nx [.pw w, .fz (.tup (ts.map D.str)), .fz (.str (strm ts)), .fz (.lst E1), .fz (.int k), .fz (.int (nN ts k)), .fz (.int (strm (ts.take (nN ts k))).length), .no, .fz (duD ts k), a9, a10, a11, a12, a13, a14, a15, a16] := by
    rw [hdu]
    generalize strm (ts.take (nN ts k)) = Y at *
    by_cases h : Y.length < k
    · simp [gSl, hcu, h, i1, i2, i3, wC]
    · simp [gSl, hcu, h, i1, i2, i3, wC]
  have st3 : sAs (dSl (dVar 2) (dNP) (dPt (dVar 4))) (gN 9) [.pw w, .fz (.tup (ts.map D.str)), .fz (.str (strm ts)), .fz (.lst E1), .fz (.int k), .fz (.int (nN ts k)), .fz (.int (strm (ts.take (nN ts k))).length), .no, .fz (duD ts k), a9, a10, a11, a12, a13, a14, a15, a16]
      = .ok .nx [.pw w, .fz (.tup (ts.map D.str)), .fz (.str (strm ts)), .fz (.lst E1), .fz (.int k), .fz (.int (nN ts k)), .fz (.int (strm (ts.take (nN ts k))).length), .no, .fz (duD ts k), .fz (.str ((strm ts).take k)), a10, a11, a12, a13, a14, a15, a16] := by
    simp [gSl, hcu2]
  obtain ⟨b10, b11, b12, b13, b14, hE⟩ := r2E_ok ts ht hl hs k hk (.pw w') (.fz (.str (strm ts))) (.fz (.lst E1)) (.fz (.int k)) (.fz (.int (strm (ts.take (nN ts k))).length)) .no a10 a11 a12 a13 a14 a15 a16
  rw [r2_eq]
  generalize duD ts k = DU at *
  by_cases hr : r = 0
  · subst hr
    refine ⟨w', .fz (.int (nN ts k)), .fz (.int (strm (ts.take (nN ts k))).length), .fz DU, .fz (.str ((strm ts).take k)), b10, b11, b12, b13, b14, hw', ?_⟩
    rw [sSeq, st1]; simp only [Res.bind]
    rw [sSeq, st2]; simp only [Res.bind]
    rw [sSeq, st3]; simp only [Res.bind]
    simp [hO, hS, hT, hE]
  · refine ⟨w', .fz (.int (nN ts k)), .fz (.int (strm (ts.take (nN ts k))).length), .fz DU, .fz (.str ((strm ts).take k)), a10, a11, a12, a13, a14, hw', ?_⟩
    rw [sSeq, st1]; simp only [Res.bind]
    rw [sSeq, st2]; simp only [Res.bind]
    rw [sSeq, st3]; simp only [Res.bind]
    simp [hO, hS, hT, hr]
end LL

namespace LL
open PySem PySem.Spec PyProof.Rows L2 DL
/-! ### the first loop -/
theorem eK_succ (ts : List (List Nat)) (i : Nat) (hi : i < ts.length) : eK ts (i + 1) = eK ts i ++ (if isd ts[i] then [fE ts (i + 1)] else []) := by
  unfold eK
  rw [List.take_succ_eq_append_getElem hi, dE_snoc, List.length_take, Nat.min_eq_left (by omega)]
  split <;> simp
theorem r1_body (ts : List (List Nat)) (ht : ∀ t ∈ ts, Txt t) (hl : ts.length ≤ 90) (i : Nat) (hi : i < ts.length) (a0 a2 a5 a6 a7 a8 a9 a10 a11 a12 a13 a14 a15 a16 : Sl) :
    b_l_right_1 [a0, .fz (.tup (ts.map D.str)), a2, .ow (eK ts i), .fz (.int i), a5, a6, a7, a8, a9, a10, a11, a12, a13, a14, a15, a16]
      = .ok .nx [a0, .fz (.tup (ts.map D.str)), a2, .ow (eK ts (i + 1)), .fz (.int i), a5, a6, a7, a8, a9, a10, a11, a12, a13, a14, a15, a16] := by
  have g : gIx (.tup (ts.map D.str)) (.int (i : Nat)) = some (.str ts[i]) := by simp [atI, ixN, hi]
  have hs : isd ts[i] = decide (cutL ts[i] none (some 2) = [100, 32]) := by unfold isd; rw [show (some (2 : Int)) = some ((2 : Nat) : Int) from rfl, cutL_b]
  have hst := l_stream_ok (ts.take (i + 1)) (fun t h => ht t (List.mem_of_mem_take h)) (by rw [List.length_take]; omega)
  have hc : cutL (ts.map D.str) none (some ((i : Int) + 1)) = (ts.take (i + 1)).map D.str := by
    have := cutL_b (ts.map D.str) (i + 1)
    rw [show ((i + 1 : Nat) : Int) = (i : Int) + 1 by omega] at this
    rw [this, List.map_take]
  have hk := eK_len ts i
  have l1 : (eK ts i).length < LIM := Nat.lt_of_le_of_lt (show (eK ts i).length ≤ 91 by omega) (by decide)
  have i2 : (2 : Nat) ≤ LIM := by decide
  rw [eK_succ ts i hi]
  have hf : fE ts (i + 1) = .tup [.int ((i : Int) + 1), .int (strm (ts.take (i + 1))).length] := by unfold fE; rw [show ((i + 1 : Nat) : Int) = (i : Int) + 1 by omega]
  rw [hf]
  generalize eK ts i = E at *
  generalize ts.take (i + 1) = us at *
  generalize ((i : Nat) : Int) = j at *
  by_cases h : cutL ts[i] none (some 2) = [100, 32]
  · simp [-gIx, b_l_right_1, g, gSl, h, hs, hc, hst, l1, i2]
  · simp [-gIx, b_l_right_1, g, gSl, h, hs]
theorem r1_loop (ts : List (List Nat)) (ht : ∀ t ∈ ts, Txt t) (hl : ts.length ≤ 90) (a0 a2 a4 a5 a6 a7 a8 a9 a10 a11 a12 a13 a14 a15 a16 : Sl) :
    ∃ b4, sLoop (gN 4) b_l_right_1 (rangeD 0 ts.length) [a0, .fz (.tup (ts.map D.str)), a2, .ow [.tup [.int 0, .int 0]], a4, a5, a6, a7, a8, a9, a10, a11, a12, a13, a14, a15, a16]
      = .ok .nx [a0, .fz (.tup (ts.map D.str)), a2, .ow (eK ts ts.length), b4, a5, a6, a7, a8, a9, a10, a11, a12, a13, a14, a15, a16] := by
  obtain ⟨ρ', e1, b4, e2⟩ := sl_inv (g := gN 4) (fb := b_l_right_1) (fun k ρ => ∃ b4, ρ = [a0, .fz (.tup (ts.map D.str)), a2, .ow (eK ts k), b4, a5, a6, a7, a8, a9, a10, a11, a12, a13, a14, a15, a16]) (rangeD 0 ts.length) 0 [a0, .fz (.tup (ts.map D.str)), a2, .ow [.tup [.int 0, .int 0]], a4, a5, a6, a7, a8, a9, a10, a11, a12, a13, a14, a15, a16] ⟨a4, by simp [eK, dE, fE, strm]⟩ (by
    rintro i d ρ hd ⟨b4, rfl⟩
    unfold rangeD at hd
    rw [List.getElem?_map, Option.map_eq_some_iff] at hd
    obtain ⟨j, hj, rfl⟩ := hd
    obtain ⟨h1, h2⟩ := List.getElem?_eq_some_iff.mp hj
    rw [List.length_range] at h1
    rw [List.getElem_range] at h2
    subst h2
    have hb := r1_body ts ht hl i h1 a0 a2 a5 a6 a7 a8 a9 a10 a11 a12 a13 a14 a15 a16
    rw [show (0 : Int) + (i : Nat) = (i : Int) by omega, Nat.zero_add]
    exact ⟨[a0, .fz (.tup (ts.map D.str)), a2, .ow (eK ts i), .fz (.int i), a5, a6, a7, a8, a9, a10, a11, a12, a13, a14, a15, a16], _, rfl, .inl hb, .fz (.int i), rfl⟩)
  refine ⟨b4, ?_⟩
  rw [e1, e2, rangeD_len, Nat.zero_add]
/-! ### the second loop -/
theorem step_in {n : Nat} {c : Int} (hc : 0 < c) {i : Nat} (h : i < (Builtin.Range.rangeSize 0 ((n : Int) + 1) c).toNat) : ∃ k : Nat, k ≤ n ∧ (0 : Int) + (i : Nat) * c = (k : Int) := by
  have h0 : Builtin.Range.rangeSize 0 ((n : Int) + 1) c = n / c + 1 := by
    unfold Builtin.Range.rangeSize
    rw [if_pos hc, if_pos (by omega)]
    rw [show ((n : Int) + 1 - 0 - 1) = n by omega]
  rw [h0] at h
  have h1 : (0 : Int) ≤ (n : Int) / c := Int.ediv_nonneg (by omega) (by omega)
  have h2 : (i : Int) ≤ (n : Int) / c := by omega
  have h3 : (i : Int) * c ≤ (n : Int) / c * c := Int.mul_le_mul_of_nonneg_right h2 (by omega)
  have h4 : (n : Int) / c * c ≤ n := Int.ediv_mul_le _ (by omega)
  have h5 : (0 : Int) ≤ (i : Int) * c := Int.mul_nonneg (by omega) (by omega)
  exact ⟨((i : Int) * c).toNat, by omega, by omega⟩
theorem r2_loop (ts : List (List Nat)) (ht : ∀ t ∈ ts, Txt t) (hl : ts.length ≤ 900) (hs : (strm ts).length ≤ 1000000) (c : Int) (hc : 0 < c) (w : List D) (hw : Well w) (a4 a5 a6 a8 a9 a10 a11 a12 a13 a14 a15 a16 : Sl) :
    ∃ w' b3 b4 b5 b6 b8 b9 b10 b11 b12 b13 b14, Well w' ∧ sLoop (gN 4) b_l_right_2 (rangeC 0 c (Builtin.Range.rangeSize 0 (((strm ts).length : Int) + 1) c).toNat) [.pw w, .fz (.tup (ts.map D.str)), .fz (.str (strm ts)), .ow (eK ts ts.length), a4, a5, a6, .no, a8, a9, a10, a11, a12, a13, a14, a15, a16]
      = .ok .nx [.pw w', .fz (.tup (ts.map D.str)), .fz (.str (strm ts)), b3, b4, b5, b6, .no, b8, b9, b10, b11, b12, b13, b14, a15, a16] := by
  obtain ⟨ρ', e1, w', b3, b4, b5, b6, b8, b9, b10, b11, b12, b13, b14, hw', h3, e2⟩ := sl_inv (g := gN 4) (fb := b_l_right_2) (fun k ρ => ∃ w' b3 b4 b5 b6 b8 b9 b10 b11 b12 b13 b14, Well w' ∧ (b3 = .ow (eK ts ts.length) ∨ b3 = .fz (.lst (eK ts ts.length))) ∧ ρ = [.pw w', .fz (.tup (ts.map D.str)), .fz (.str (strm ts)), b3, b4, b5, b6, .no, b8, b9, b10, b11, b12, b13, b14, a15, a16]) (rangeC 0 c (Builtin.Range.rangeSize 0 (((strm ts).length : Int) + 1) c).toNat) 0 _ ⟨w, _, a4, a5, a6, a8, a9, a10, a11, a12, a13, a14, hw, .inl rfl, rfl⟩ (by
    rintro i d ρ hd ⟨w1, b3, b4, b5, b6, b8, b9, b10, b11, b12, b13, b14, hw1, h3, rfl⟩
    unfold rangeC at hd
    rw [List.getElem?_map, Option.map_eq_some_iff] at hd
    obtain ⟨j, hj, rfl⟩ := hd
    obtain ⟨h1, h2⟩ := List.getElem?_eq_some_iff.mp hj
    rw [List.length_range] at h1
    rw [List.getElem_range] at h2
    subst h2
    obtain ⟨k, hk, ek⟩ := step_in hc h1
    rw [ek]
    obtain ⟨w2, c5, c6, c8, c9, c10, c11, c12, c13, c14, hw2, hb⟩ := r2_body ts ht hl hs k hk w1 hw1 b3 h3 b5 b6 b8 b9 b10 b11 b12 b13 b14 a15 a16
    exact ⟨_, _, rfl, .inl hb, w2, _, _, c5, c6, c8, c9, c10, c11, c12, c13, c14, hw2, .inr rfl, rfl⟩)
  exact ⟨w', b3, b4, b5, b6, b8, b9, b10, b11, b12, b13, b14, hw', by rw [e1, e2]⟩
/-! ### the third loop: signs changed -/
theorem same_opD (x : List Nat) (hl : x.length ≤ 800) : F_l_same [.lst [opD x, opD x], .lst [opD x, opD x]] = .ok (.val (.bl true)) [] := by
  have hs : Sm 4 (opD x) := by
    have hn := ens_len x
    unfold opD
    refine ⟨by simp, fun d hd => ?_⟩
    simp only [List.mem_cons, List.not_mem_nil, or_false] at hd
    rcases hd with rfl | rfl | rfl
    · exact Sm_strs 1 _ (by rw [List.length_take]; omega)
    · trivial
    · refine ⟨by split <;> simp, fun d hd => ?_⟩
      split at hd
      · simp only [List.mem_cons, List.not_mem_nil, or_false] at hd
        subst hd
        refine ⟨by simp, fun d hd => ?_⟩
        simp only [List.mem_cons, List.not_mem_nil, or_false] at hd
        rcases hd with rfl | rfl <;> trivial
      · cases hd
  refine same_refl 5 (.lst [opD x, opD x]) ⟨by simp, fun d hd => ?_⟩
  simp only [List.mem_cons, List.not_mem_nil, or_false] at hd
  rcases hd with rfl | rfl <;> exact hs
def qc : List Nat := [111, 32, 116, 32, 49]
def qd : List Nat := [100]
def qe : List Nat := [100, 32, 49, 32, 120]
theorem qc_txt : Txt qc := ⟨by decide, by decide, by decide⟩
theorem qd_txt : Txt qd := ⟨by decide, by decide, by decide⟩
theorem qe_txt : Txt qe := ⟨by decide, by decide, by decide⟩
theorem frm_SG {t : List Nat} (h : Txt t) : ∀ c ∈ frm t, c ∈ SG := by
  have := strm_SG [t] (fun u hu => by simp at hu; rw [hu]; exact h)
  simpa [strm] using this
theorem r5_body (x : List Nat) (hx : Sig x) (hl : x.length ≤ 700) (w : List D) (hw : Well w) (a1 a3 a4 a5 a6 a7 a8 a9 a10 a11 a12 a13 a14 a15 a16 : Sl) :
    ∃ w' b4 b16, Well w' ∧ b_l_right_5 [.pw w, a1, .fz (.str x), a3, a4, a5, a6, a7, a8, a9, a10, a11, a12, a13, a14, a15, a16]
      = .ok .nx [.pw w', a1, .fz (.str x), a3, b4, a5, a6, a7, a8, a9, a10, a11, a12, a13, a14, a15, b16] := by
  have hM : ∃ M : Int, gMax [.int 1, .int x.length] = some (.int M) ∧ 1 ≤ M ∧ M ≤ 700 := ⟨_, rfl, by split <;> omega, by split <;> omega⟩
  obtain ⟨M, eM, M0, M1⟩ := hM
  obtain ⟨k, w1, hw1, k0, k1, e1⟩ := take_ok hw (m := M) (by omega) (by omega)
  obtain ⟨ch, hch, w2, hw2, e2⟩ := pick_str hw1 (x := [48, 49, 53, 32, 100, 122, 124]) (by simp) (by decide)
  have f1 := l_frame_ok qc qc_txt
  have f2 := l_frame_ok qd qd_txt
  have f3 := l_frame_ok qe qe_txt
  obtain ⟨d, hd, w3, hw3, e3⟩ := pick_lst hw2 (x := [.str [], .str [48], .str (frm qc), .str (frm qd ++ frm qe)]) (by simp) (by simp)
  obtain ⟨y, rfl, y1, y2⟩ : ∃ y, d = .str y ∧ y.length ≤ 40 ∧ ∀ c ∈ y, c ∈ SG := by
    simp only [List.mem_cons, List.not_mem_nil, or_false] at hd
    rcases hd with rfl | rfl | rfl | rfl
    · exact ⟨_, rfl, by simp, by simp⟩
    · exact ⟨_, rfl, by simp, by decide⟩
    · exact ⟨_, rfl, by rw [frm_len]; decide, frm_SG qc_txt⟩
    · refine ⟨_, rfl, by rw [List.length_append, frm_len, frm_len]; decide, fun c hc => ?_⟩
      rcases List.mem_append.mp hc with z | z
      · exact frm_SG qd_txt c z
      · exact frm_SG qe_txt c z
  have hk : k = ((k.toNat : Nat) : Int) := by omega
  have c1 : cutL x none (some k) = x.take k.toNat := by
    have := cutL_b x k.toNat
    rw [← hk] at this
    exact this
  have c2 : cutL x (some (k + 1)) none = x.drop (k.toNat + 1) := by
    have := cutL_a x (k.toNat + 1)
    rw [show ((k.toNat + 1 : Nat) : Int) = k + 1 by omega] at this
    exact this
  have hch2 : ch ∈ SG := by
    have : ∀ c ∈ [48, 49, 53, 32, 100, 122, 124], c ∈ SG := by decide
    exact this ch hch
  have hb1 : Sig (x.take k.toNat ++ [ch] ++ x.drop (k.toNat + 1) ++ y) := by
    intro c hc
    simp only [List.mem_append, List.mem_cons, List.not_mem_nil, or_false] at hc
    rcases hc with ((hc | rfl) | hc) | hc
    · exact hx c (List.mem_of_mem_take hc)
    · exact hch2
    · exact hx c (List.mem_of_mem_drop hc)
    · exact y2 c hc
  have t1 : (x.take k.toNat).length ≤ 700 := by rw [List.length_take]; omega
  have t2 : (x.drop (k.toNat + 1)).length ≤ 700 := by rw [List.length_drop]; omega
  have t3 : (x.take k.toNat).length + (x.drop (k.toNat + 1)).length ≤ 700 := by rw [List.length_take, List.length_drop]; omega
  have hb2 : (x.take k.toNat ++ [ch] ++ x.drop (k.toNat + 1) ++ y).length ≤ 800 := by
    simp only [List.length_append, List.length_cons, List.length_nil]; omega
  have L3 : ∀ n : Nat, n ≤ 3000 → n ≤ LIM := fun n h => Nat.le_trans h (by decide)
  have hO := opened_ok (x.take k.toNat ++ [ch] ++ x.drop (k.toNat + 1) ++ y) (L3 _ (by omega)) hb1
  have hO2 := l_opened_ok (x.take k.toNat ++ [ch] ++ x.drop (k.toNat + 1) ++ y) hb2 hb1
  have hS := same_opD (x.take k.toNat ++ [ch] ++ x.drop (k.toNat + 1) ++ y) hb2
  have q1 : (x.take k.toNat).length + 1 ≤ LIM := L3 _ (by omega)
  have q2 : (x.take k.toNat).length + 1 + (x.drop (k.toNat + 1)).length ≤ LIM := L3 _ (by omega)
  have q3 : (x.take k.toNat).length + 1 + (x.drop (k.toNat + 1)).length + y.length ≤ LIM := L3 _ (by omega)
  have q5 : (x.take k.toNat).length + ((x.drop (k.toNat + 1)).length + 1) + y.length ≤ LIM := L3 _ (by omega)
  have q6 : (x.take k.toNat).length + ((x.drop (k.toNat + 1)).length + 1) ≤ LIM := L3 _ (by omega)
  have q4 : (frm qd).length + (frm qe).length ≤ LIM := by rw [frm_len, frm_len]; decide
  have i1 : (1 : Nat) ≤ LIM := by decide
  have i2 : (2 : Nat) ≤ LIM := by decide
  have i4 : (4 : Nat) ≤ LIM := by decide
  have u1 : F_l_frame [.str [111, 32, 116, 32, 49]] = .ok (.val (.str (frm qc))) [] := f1
  have u2 : F_l_frame [.str [100]] = .ok (.val (.str (frm qd))) [] := f2
  have u3 : F_l_frame [.str [100, 32, 49, 32, 120]] = .ok (.val (.str (frm qe))) [] := f3
  have lapp : x.take k.toNat ++ ch :: (x.drop (k.toNat + 1) ++ y) = x.take k.toNat ++ [ch] ++ x.drop (k.toNat + 1) ++ y := by simp
  generalize hA : x.take k.toNat = A at *
  generalize hB : x.drop (k.toNat + 1) = B at *
  refine ⟨w3, .fz (.int k), .fz (.str (A ++ [ch] ++ B ++ y)), hw3, ?_⟩
  generalize hZ : A ++ [ch] ++ B ++ y = Z at *
  simp [b_l_right_5, -gMax, eM, e1, gSl, c1, c2, e2, q1, q2, u1, u2, u3, q4, i4, e3, q3, q5, q6, lapp, hO, hO2, hS, i1, i2, List.replicate]
end LL

namespace LL
open PySem PySem.Spec PyProof.Rows L2 DL
theorem r5_loop (x : List Nat) (hx : Sig x) (hl : x.length ≤ 700) (items : List D) (w : List D) (hw : Well w) (a1 a3 a4 a5 a6 a7 a8 a9 a10 a11 a12 a13 a14 a15 a16 : Sl) :
    ∃ w' b4 b15 b16, Well w' ∧ sLoop (gN 15) b_l_right_5 items [.pw w, a1, .fz (.str x), a3, a4, a5, a6, a7, a8, a9, a10, a11, a12, a13, a14, a15, a16]
      = .ok .nx [.pw w', a1, .fz (.str x), a3, b4, a5, a6, a7, a8, a9, a10, a11, a12, a13, a14, b15, b16] := by
  obtain ⟨ρ', e1, w', b4, b15, b16, h, e2⟩ := sl_inv (g := gN 15) (fb := b_l_right_5) (fun k ρ => ∃ w' b4 b15 b16, Well w' ∧ ρ = [.pw w', a1, .fz (.str x), a3, b4, a5, a6, a7, a8, a9, a10, a11, a12, a13, a14, b15, b16]) items 0 [.pw w, a1, .fz (.str x), a3, a4, a5, a6, a7, a8, a9, a10, a11, a12, a13, a14, a15, a16] ⟨w, a4, a15, a16, hw, rfl⟩ (by
    rintro i d ρ hd ⟨w1, b4, b15, b16, h1, rfl⟩
    obtain ⟨w2, c4, c16, h2, e⟩ := r5_body x hx hl w1 h1 a1 a3 b4 a5 a6 a7 a8 a9 a10 a11 a12 a13 a14 (.fz d) b16
    exact ⟨_, _, rfl, .inl e, w2, c4, .fz d, c16, h2, rfl⟩)
  exact ⟨w', b4, b15, b16, h, by rw [e1, e2]⟩
theorem small_ok {n c : Int} (h0 : 0 ≤ n) (h1 : n ≤ 1000000) (h2 : 0 < c) (h3 : c ≤ 1000000) : Builtin.Range.small 0 n c = true := by
  have hs : 0 ≤ Builtin.Range.rangeSize 0 n c ∧ Builtin.Range.rangeSize 0 n c ≤ 1000001 := by
    unfold Builtin.Range.rangeSize
    rw [if_pos (by omega)]
    split
    · have h1 : 0 ≤ (n - 0 - 1) / c := Int.ediv_nonneg (by omega) (by omega)
      have h2 : (n - 0 - 1) / c ≤ n - 0 - 1 := Int.ediv_le_self _ (by omega)
      omega
    · omega
  unfold Builtin.Range.small Builtin.Range.rangeFitsLong
  rw [if_pos (by omega)]
  simp only [Bool.and_eq_true, decide_eq_true_eq, Bool.or_eq_true]
  omega
theorem strm_len2 : ∀ ts : List (List Nat), (∀ t ∈ ts, t.length ≤ 40) → (strm ts).length ≤ 47 * ts.length
  | [], _ => by simp [strm]
  | t :: r, h => by
    have ih := strm_len2 r fun u hu => h u (List.mem_cons_of_mem _ hu)
    have e : strm (t :: r) = frm t ++ strm r := by simp [strm]
    have := h t (List.mem_cons_self ..)
    rw [e, List.length_append, frm_len, List.length_cons]; omega
theorem right_ok (ts : List (List Nat)) (ht : ∀ t ∈ ts, Txt t) (hq : ∀ t ∈ ts, t.length ≤ 40) (hl : ts.length ≤ 9) {w : List D} (hw : Well w) : ∃ w', Well w' ∧ F_l_right w [.tup (ts.map D.str)] = .ok (.val (.bl true)) [.pw w'] := by
  have hsm := strm_len2 ts hq
  have s1 := l_stream_ok ts ht (by omega)
  obtain ⟨b4, e1⟩ := r1_loop ts ht (by omega) (.pw w) (.fz (.str (strm ts))) .no .no .no .no .no .no .no .no .no .no .no .no .no
  have hc0 : (0 : Int) < 1 + ((strm ts).length : Int) / 25 := by omega
  obtain ⟨w1, c3, c4, c5, c6, c8, c9, c10, c11, c12, c13, c14, hw1, e2⟩ := r2_loop ts ht (by omega) (by omega) _ hc0 w hw b4 .no .no .no .no .no .no .no .no .no .no .no
  obtain ⟨w', d4, d15, d16, hw', e3⟩ := r5_loop (strm ts) (strm_SG ts ht) (by omega) (rangeD 0 10) w1 hw1 (.fz (.tup (ts.map D.str))) c3 c4 c5 c6 .no c8 c9 c10 c11 c12 c13 c14 .no .no
  refine ⟨w', hw', ?_⟩
  have l1 : (1 : Nat) ≤ LIM := by decide
  have l2 : (2 : Nat) ≤ LIM := by decide
  have t1 : -LR ≤ (ts.length : Int) := by unfold LR; omega
  have t2 : (ts.length : Int) ≤ LR := by unfold LR; omega
  have r1 : ¬ (1 + ((strm ts).length : Int) / 25 = 0) := by omega
  have r2 : (1 + ((strm ts).length : Int) / 25).natAbs < 1073741824 := by omega
  have r3 : Builtin.Range.small 0 ((strm ts).length + 1) (1 + ((strm ts).length : Int) / 25) = true := by
    refine small_ok ?_ ?_ ?_ ?_ <;> omega
  have r4 : -LR ≤ (10 : Int) ∧ (10 : Int) ≤ LR := by unfold LR; omega
  unfold F_l_right dFun1
  rw [eq_l_right]
  simp [s1, l1, l2, t1, t2, itemsD, e1, r1, r2, r3, e2, r4, e3]
theorem ld_body (a0 a1 : Sl) {w : List D} (hw : Well w) {many : Int} (m0 : 0 ≤ many) (m1 : many ≤ 6) (a4 : Sl) :
    ∃ w' b4, Well w' ∧ b_law_2 [a0, a1, .ow w, .fz (.int many), a4, .no] = .ok .nx [a0, a1, .ow w', .fz (.int many), b4, .no] := by
  obtain ⟨out, w1, l1, g1, hw1, e1⟩ := lc_any (vs := [5]) (turn := dTurn (gN 5) dYes (dCal1 1 2 F_l_text (dCons (dC (.int 25)) (dNil)))) (fun w : List D => [a0, a1, .ow w, .fz (.int many), a4, .no]) Well (fun d => ∃ t, Txt t ∧ t.length ≤ 40 ∧ d = .str t) (rangeD 0 many.toNat) [] w hw (by
    intro x hx w hw
    obtain ⟨t, w', hw', ⟨ht, hq⟩, e⟩ := text_ok hw (m := 25) (by omega) (by omega)
    refine ⟨.str t, w', [a0, a1, .ow w', .fz (.int many), a4, .fz x], ⟨t, ht, hq, rfl⟩, hw', ?_, rfl⟩
    simp [e]) (by simp only [rangeD, List.length_map, List.length_range, List.length_nil, Nat.zero_add]; exact Nat.le_trans (show many.toNat ≤ 7 by omega) (by decide))
  obtain ⟨ts, hts, hqs, rfl⟩ : ∃ ts : List (List Nat), (∀ t ∈ ts, Txt t) ∧ (∀ t ∈ ts, t.length ≤ 40) ∧ out = ts.map D.str := by
    clear e1 l1
    induction out with
    | nil => exact ⟨[], (fun _ h => by cases h), (fun _ h => by cases h), rfl⟩
    | cons d r ih =>
      obtain ⟨ts, h1, h2, h3⟩ := ih fun d hd => g1 d (List.mem_cons_of_mem _ hd)
      obtain ⟨t, ht, hq, rfl⟩ := g1 d (List.mem_cons_self ..)
      exact ⟨t :: ts, fun x hx => (List.mem_cons.mp hx).elim (fun e => e ▸ ht) (h1 x), fun x hx => (List.mem_cons.mp hx).elim (fun e => e ▸ hq) (h2 x), by rw [h3]; rfl⟩
  have hl : ts.length ≤ 6 := by
    have : ts.length = many.toNat := by simpa [rangeD] using l1
    omega
  obtain ⟨w2, hw2, e2⟩ := right_ok ts hts hqs (by omega) hw1
  have hx : ∀ t ∈ ts ++ [[100, 32, 49, 32, 118, 111, 105, 100, 32, 116], [103, 32, 116, 32, 48], [100, 32, 50]], Txt t ∧ t.length ≤ 40 := by
    intro t h
    simp only [List.mem_append, List.mem_cons, List.not_mem_nil, or_false] at h
    rcases h with h | rfl | rfl | rfl
    · exact ⟨hts t h, hqs t h⟩
    · exact ⟨⟨by decide, by decide, by decide⟩, by decide⟩
    · exact ⟨⟨by decide, by decide, by decide⟩, by decide⟩
    · exact ⟨⟨by decide, by decide, by decide⟩, by decide⟩
  obtain ⟨w3, hw3, e3⟩ := right_ok _ (fun t h => (hx t h).1) (fun t h => (hx t h).2) (by simp; omega) hw2
  rw [List.map_append] at e3
  refine ⟨w3, .fz (.tup (ts.map D.str)), hw3, ?_⟩
  have r1 : -LR ≤ many := by unfold LR; omega
  have r2 : many ≤ LR := by unfold LR; omega
  have i3 : (3 : Nat) ≤ LIM := by decide
  have i4 : ts.length + 3 ≤ LIM := Nat.le_trans (show ts.length + 3 ≤ 10 by omega) (by decide)
  rw [List.nil_append] at e1
  simp only [List.map_cons, List.map_nil] at e3
  simp [b_law_2, r1, r2, e1, gTuple, e2, i3, i4, e3]
theorem lt_body (ns : List Int) (k : Nat) (a2 a3 a4 : Sl) : ∃ b2 b3 b4, b_law_1 [.fz (.scr ns), .fz (.int k), a2, a3, a4, .no] = .ok .nx [.fz (.scr ns), .fz (.int k), b2, b3, b4, .no] := by
  obtain ⟨w, hw, e0⟩ := well_ok (ns := ns) (t := k) (by omega)
  obtain ⟨ρ', e1, w', b3, b4, hw', e2⟩ := sl_inv (g := gN 3) (fb := b_law_2) (fun i ρ => ∃ w' b3 b4, Well w' ∧ ρ = [.fz (.scr ns), .fz (.int k), .ow w', b3, b4, .no]) [.int 0, .int 1, .int 3, .int 6] 0 [.fz (.scr ns), .fz (.int k), .ow w, a3, a4, .no] ⟨w, a3, a4, hw, rfl⟩ (by
    rintro i d ρ hd ⟨w1, b3, b4, h1, rfl⟩
    obtain ⟨many, rfl, q1, q2⟩ : ∃ many : Int, d = .int many ∧ 0 ≤ many ∧ many ≤ 6 := by
      have := List.mem_of_getElem? hd
      simp only [List.mem_cons, List.not_mem_nil, or_false] at this
      rcases this with rfl | rfl | rfl | rfl <;> exact ⟨_, rfl, by decide, by decide⟩
    obtain ⟨w2, c4, h2, e⟩ := ld_body (.fz (.scr ns)) (.fz (.int k)) h1 q1 q2 b4
    exact ⟨_, _, rfl, .inl e, w2, _, _, h2, rfl⟩)
  have l4 : (4 : Nat) ≤ LIM := by decide
  exact ⟨.ow w', b3, b4, by simp [b_law_1, e0, l4, itemsD, e1, e2]⟩
theorem truth (ns : List Int) (hn : ns.length ≤ 63) : F_law [.scr ns] = .ok (.val (.bl true)) [] := by
  have hm : ∃ m : Int, gMin [.int ns.length, .int 4] = some (.int m) ∧ m ≤ 4 := ⟨_, rfl, by split <;> omega⟩
  obtain ⟨m, em, m1⟩ := hm
  have hM : ∃ M : Int, gMax [.int 2, .int m] = some (.int M) ∧ 0 ≤ M ∧ M ≤ 4 := ⟨_, rfl, by split <;> omega, by split <;> omega⟩
  obtain ⟨M, eM, M0, M1⟩ := hM
  obtain ⟨ρ', e1, b1, b2, b3, b4, e2⟩ := sl_inv (g := gN 1) (fb := b_law_1) (fun i ρ => ∃ b1 b2 b3 b4, ρ = [.fz (.scr ns), b1, b2, b3, b4, .no]) (rangeD 0 M.toNat) 0 [.fz (.scr ns), .no, .no, .no, .no, .no] ⟨_, _, _, _, rfl⟩ (by
    rintro i d ρ hd ⟨b1, b2, b3, b4, rfl⟩
    unfold rangeD at hd
    rw [List.getElem?_map, Option.map_eq_some_iff] at hd
    obtain ⟨j, _, rfl⟩ := hd
    obtain ⟨c2, c3, c4, e⟩ := lt_body ns j b2 b3 b4
    rw [show (0 : Int) + (j : Nat) = (j : Int) by omega]
    exact ⟨[.fz (.scr ns), .fz (.int j), b2, b3, b4, .no], _, rfl, .inl e, _, _, _, _, rfl⟩)
  have r1 : -LR ≤ M := by unfold LR; omega
  have r2 : M ≤ LR := by unfold LR; omega
  unfold F_law dFun0
  rw [eq_law]
  simp [em, eM, r1, r2, e1, e2]
end LL

namespace LH
open PySem PySem.W PySem.Calls PyProof.Rows
theorem holds (truth : ∀ ns : List Int, ns.length ≤ 63 → LL.F_law [.scr ns] = .ok (.val (.bl true)) []) : PySem.Challenge.rw_tallstrips_k45_opening_cut_anywhere.Holds := by
  w_on; o_law
  refine HandSHeadRun.head_any (r := OpenLaw.row PySem.Challenge.rw_tallstrips_k45_opening_cut_anywhere) (q := view (OpenLaw.row PySem.Challenge.rw_tallstrips_k45_opening_cut_anywhere).prog [64]) (H := LL.hk) (ob := LL.ob) (M := 3000) (loose := LL.names) (d := HandSHeadRun.topDef (OpenLaw.row PySem.Challenge.rw_tallstrips_k45_opening_cut_anywhere).prog 64) (kwd := []) LL.ob_eq
    (by kernel_rfl) (fun s => by kernel_rfl) LL.run (by kernel_rfl) (by kernel_rfl) (by kernel_rfl) (by rfl) (by first | assumption | decide +kernel) (by decide +kernel) ⟨rfl, rfl, rfl, rfl, rfl, by decide +kernel⟩ ?hw ?hc
  case hw => w_witness2
  case hc =>
    refine L2.walk_ofE (l := PySem.Challenge.rw_tallstrips_k45_opening_cut_anywhere) (n := 63) (k := 8) (x := "script") (CX := L2.CX0) rfl (by decide) (by kernel_rfl) ⟨rfl, by decide, by decide⟩ ?F (fun _ _ _ _ z => z)
    intro w mg fa h Y Gn hmg0
    obtain ⟨K, KX, c⟩ := Y
    have hmg : mg ("law" : PySem.Str) = some (.ref fa) := by
      have e : (HandSHeadRun.topDef (OpenLaw.row PySem.Challenge.rw_tallstrips_k45_opening_cut_anywhere).prog 64).name = ("law" : PySem.Str) := by kernel_rfl
      rw [← e]
      exact hmg0
    obtain ⟨fd, hb, hF⟩ := LL.facts (P := (PySem.Challenge.rw_tallstrips_k45_opening_cut_anywhere).prog) (w := w) KX Gn hmg c
    exact ⟨K, fd, DL.spD0 K 1 LL.F_law, KX, hb, fun H a ns hl ho hS => DL.sp_law (truth ns hl) ho hS, hF⟩
end LH

theorem PySem.Challenge.cw_tallstrips_k45_opening_cut_anywhere_holds : PySem.Challenge.rw_tallstrips_k45_opening_cut_anywhere.Holds := by
  exact LH.holds LL.truth
