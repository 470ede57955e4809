import PyProof.Rows.All
import Wide.All
import OpenK.AllK
import Wide.FinOn
import KE.KStateDown
import Lean
import HandS.ForMost
import HandS.WordsExc
import HandS.Defaults
import HandS.Head0
import HandS.Head1
import HandS.Head2
import HandS.HeadEnd
import HandS.HeadHook1
import HandS.HeadHook2
import HandS.Star
import HandS.TupAny
import HandS.Sort
import HandS.SortInts
import HandS.Conv
import HandS.Style
import HandS.DictComp
import HandS.Wide
import HandS.RaiseMore
import KE.SortData
import KE.DataCmp
import KE.DataEq
import KE.DataMinMax
import HandS.TupLen
import HandS.WordsDict
import HandS.More
import HandS.DictTup
import KE.KDictKeyed
import KE.GoesMore
import HandS.Zip
import HandS.HeadHook4
import PySem.Challenge.RW_placesdefended_k30_whole_pieces_at_peace
set_option Elab.async false
set_option linter.all false
set_option maxRecDepth 100000
set_option maxHeartbeats 0
namespace DL
open PySem PySem.Spec PyProof.Rows L2

/-! ## data held by values: Z says which addresses are frozen (never written again) -/
abbrev Zs := Addr → Prop
mutual
inductive DpZ (K : PySem.W.Frag) (Z : Zs) (H : Hp) : V → PyData → Prop
  | non : DpZ K Z H .non .none
  | bl (b : Bool) : DpZ K Z H (.bl b) (.bool b)
  | int (i : Int) : DpZ K Z H (.int i) (.int i)
  | str (x : Str) : DpZ K Z H (.str x) (.str x)
  | lst {a : Addr} {xs : List V} {ds : List PyData} : Z a → H a = some (.lst xs) → DpZs K Z H xs ds → DpZ K Z H (.ref a) (.list ds)
  | tup {a : Addr} {xs : List V} {ds : List PyData} : H a = some (.tup xs) → DpZs K Z H xs ds → DpZ K Z H (.ref a) (.tuple ds)
inductive DpZs (K : PySem.W.Frag) (Z : Zs) (H : Hp) : List V → List PyData → Prop
  | nil : DpZs K Z H [] []
  | cons {v : V} {vs : List V} {d : PyData} {ds : List PyData} : DpZ K Z H v d → DpZs K Z H vs ds → DpZs K Z H (v :: vs) (d :: ds)
end

section
variable {K : PySem.W.Frag} {Z Z' : Zs} {H H' : Hp}
mutual
theorem DpZ.keep (zu : ∀ a, Z a → Z' a) (k : ∀ a o, Z a → H a = some o → H' a = some o) (kt : ∀ a xs, H a = some (.tup xs) → H' a = some (.tup xs)) : ∀ {d : PyData} {v : V}, DpZ K Z H v d → DpZ K Z' H' v d
  | .none, _, h => by cases h; exact .non
  | .bool _, _, h => by cases h; exact .bl _
  | .int _, _, h => by cases h; exact .int _
  | .str _, _, h => by cases h; exact .str _
  | .list ds, _, h => by
    cases h with
    | lst z s t => exact .lst (zu _ z) (k _ _ z s) (DpZs.keep zu k kt t)
  | .tuple ds, _, h => by
    cases h with
    | tup s t => exact .tup (kt _ _ s) (DpZs.keep zu k kt t)
  | .dict _, _, h => by cases h
theorem DpZs.keep (zu : ∀ a, Z a → Z' a) (k : ∀ a o, Z a → H a = some o → H' a = some o) (kt : ∀ a xs, H a = some (.tup xs) → H' a = some (.tup xs)) : ∀ {ds : List PyData} {vs : List V}, DpZs K Z H vs ds → DpZs K Z' H' vs ds
  | [], _, h => by cases h; exact .nil
  | d :: ds, _, h => by
    cases h with
    | cons h t => exact .cons (DpZ.keep zu k kt h) (DpZs.keep zu k kt t)
end
theorem DpZ.tupAt {ds : List PyData} {v : V} (h : DpZ K Z H v (.tuple ds)) : ∃ a xs, v = .ref a ∧ H a = some (.tup xs) ∧ DpZs K Z H xs ds := by
  cases h with
  | tup s t => exact ⟨_, _, rfl, s, t⟩
theorem DpZ.sqt {a : Addr} {ds : List PyData} {v : V} (h : DpZ K Z H v (.tuple ds)) : ∃ a xs, v = .ref a ∧ SqT K H a xs ∧ DpZs K Z H xs ds := by
  cases h with
  | tup s t => exact ⟨_, _, rfl, .of s, t⟩
mutual
theorem DpZ.dp : ∀ {d : PyData} {v : V}, DpZ K Z H v d → Dp K H v d
  | .none, _, h => by cases h; exact .non
  | .bool _, _, h => by cases h; exact .bl _
  | .int _, _, h => by cases h; exact .int _
  | .str _, _, h => by cases h; exact .str _
  | .list ds, _, h => by
    cases h with
    | lst z s t => exact .lst (.of s) (DpZs.dp t)
  | .tuple ds, _, h => by
    cases h with
    | tup s t => exact .tup (.of s) (DpZs.dp t)
  | .dict _, _, h => by cases h
theorem DpZs.dp : ∀ {ds : List PyData} {vs : List V}, DpZs K Z H vs ds → DpAll K H vs ds
  | [], _, h => by cases h; exact .nil
  | d :: ds, _, h => by
    cases h with
    | cons h t => exact .cons (DpZ.dp h) (DpZs.dp t)
end
theorem DpZs.length : ∀ {vs : List V} {ds : List PyData}, DpZs K Z H vs ds → vs.length = ds.length
  | _, _, .nil => rfl
  | _, _, .cons _ t => congrArg (· + 1) (DpZs.length t)
theorem DpZs.at : ∀ {vs : List V} {ds : List PyData} {i : Nat} {v : V}, DpZs K Z H vs ds → vs[i]? = some v → ∃ d, ds[i]? = some d ∧ DpZ K Z H v d
  | _, _, _, _, .nil, e => by simp at e
  | _, _, 0, _, .cons h _, e => by simp at e; subst e; exact ⟨_, rfl, h⟩
  | _, _, i + 1, v, .cons _ t, e => by
    obtain ⟨d, h1, h2⟩ := DpZs.at (i := i) (v := v) t (by simpa using e)
    exact ⟨d, by simpa using h1, h2⟩
theorem DpZs.atD : ∀ {vs : List V} {ds : List PyData} {i : Nat} {d : PyData}, DpZs K Z H vs ds → ds[i]? = some d → ∃ v, vs[i]? = some v ∧ DpZ K Z H v d
  | _, _, _, _, .nil, e => by simp at e
  | _, _, 0, _, .cons h _, e => by simp at e; subst e; exact ⟨_, rfl, h⟩
  | _, _, i + 1, d, .cons _ t, e => by
    obtain ⟨v, h1, h2⟩ := DpZs.atD (i := i) (d := d) t (by simpa using e)
    exact ⟨v, by simpa using h1, h2⟩
theorem DpZs.append : ∀ {vs ws : List V} {ds es : List PyData}, DpZs K Z H vs ds → DpZs K Z H ws es → DpZs K Z H (vs ++ ws) (ds ++ es)
  | _, _, _, _, .nil, h => h
  | _, _, _, _, .cons h t, q => .cons h (DpZs.append t q)
theorem DpZs.take : ∀ {vs : List V} {ds : List PyData} (n : Nat), DpZs K Z H vs ds → DpZs K Z H (vs.take n) (ds.take n)
  | _, _, 0, _ => .nil
  | _, _, _ + 1, .nil => .nil
  | _, _, n + 1, .cons r t => .cons r (DpZs.take n t)
theorem DpZs.drop : ∀ {vs : List V} {ds : List PyData} (n : Nat), DpZs K Z H vs ds → DpZs K Z H (vs.drop n) (ds.drop n)
  | _, _, 0, r => r
  | _, _, _ + 1, .nil => .nil
  | _, _, n + 1, .cons _ t => DpZs.drop n t
theorem DpZs.set : ∀ {vs : List V} {ds : List PyData} {v : V} {d : PyData} (i : Nat), DpZs K Z H vs ds → DpZ K Z H v d → DpZs K Z H (vs.set i v) (ds.set i d)
  | _, _, _, _, _, .nil, _ => .nil
  | _, _, _, _, 0, .cons _ t, h => .cons h t
  | _, _, _, _, i + 1, .cons q t, h => .cons q (DpZs.set i t h)
theorem DpZs.rev {vs : List V} {ds : List PyData} (h : DpZs K Z H vs ds) : DpZs K Z H vs.reverse ds.reverse := by
  induction h using DpZs.rec (motive_1 := fun _ _ _ => True) with
  | nil => exact .nil
  | cons h t _ ih => rw [List.reverse_cons, List.reverse_cons]; exact ih.append (.cons h .nil)
  | _ => trivial
theorem DpZs.erase : ∀ {vs : List V} {ds : List PyData} (i : Nat), DpZs K Z H vs ds → DpZs K Z H (vs.eraseIdx i) (ds.eraseIdx i)
  | _, _, _, .nil => .nil
  | _, _, 0, .cons _ t => t
  | _, _, i + 1, .cons h t => .cons h (DpZs.erase i t)
theorem DpZs.rep {v : V} {d : PyData} (h : DpZ K Z H v d) : ∀ n : Nat, DpZs K Z H (List.replicate n v) (List.replicate n d)
  | 0 => .nil
  | n + 1 => .cons h (DpZs.rep h n)
end

/-! ## objects that a local owns -/
inductive Ob where
  | fr (d : PyData)
  | lst (l : List PyData)
  | ll (l : List (List PyData))
  | acc (n : Nat) (r : List PyData)
  | dk (kvs : List (Key × PyData))
  | dt (kvs : List (List Key × PyData))
  | scr (l : List Int)
  | src (cells : List Int) (left mixed turn : Int)

inductive LLs (K : PySem.W.Frag) (Z : Zs) (H : Hp) : List Addr → List (List PyData) → Prop
  | nil : LLs K Z H [] []
  | cons {b : Addr} {bs : List Addr} {vs : List V} {l : List PyData} {ls : List (List PyData)} : H b = some (.lst vs) → DpZs K Z H vs l → LLs K Z H bs ls → LLs K Z H (b :: bs) (l :: ls)

/-- a table's values -/
inductive DKv {κ : Type} (K : PySem.W.Frag) (Z : Zs) (H : Hp) : List (κ × V) → List (κ × PyData) → Prop
  | nil : DKv K Z H [] []
  | cons {k : κ} {v : V} {d : PyData} {kvs : List (κ × V)} {kds : List (κ × PyData)} : DpZ K Z H v d → DKv K Z H kvs kds → DKv K Z H ((k, v) :: kvs) ((k, d) :: kds)
theorem DKv.keep {κ : Type} {K : PySem.W.Frag} {Z Z' : Zs} {H H' : Hp} (zu : ∀ a, Z a → Z' a) (k : ∀ a o, Z a → H a = some o → H' a = some o) (kt : ∀ a xs, H a = some (.tup xs) → H' a = some (.tup xs)) {kvs : List (κ × V)} {kds : List (κ × PyData)} (h : DKv K Z H kvs kds) : DKv K Z' H' kvs kds := by
  induction h with
  | nil => exact .nil
  | cons r _ ih => exact .cons (r.keep zu k kt) ih

def kCells : Key := .inr (PySem.Str.ofString "cells")
def kLeft : Key := .inr (PySem.Str.ofString "left")
def kMixed : Key := .inr (PySem.Str.ofString "mixed")
def kTurn : Key := .inr (PySem.Str.ofString "turn")

/-- v bears the object o, whose own (written) addresses are fp -/
inductive RepO (K : PySem.W.Frag) (Z : Zs) (H : Hp) : V → Ob → List Addr → Prop
  | fr {v : V} {d : PyData} : DpZ K Z H v d → RepO K Z H v (.fr d) []
  | lst {a : Addr} {vs : List V} {l : List PyData} : H a = some (.lst vs) → DpZs K Z H vs l → RepO K Z H (.ref a) (.lst l) [a]
  | ll {a : Addr} {bs : List Addr} {l : List (List PyData)} : H a = some (.lst (bs.map V.ref)) → LLs K Z H bs l → RepO K Z H (.ref a) (.ll l) (a :: bs)
  | acc {a : Addr} {vs : List V} {n : Nat} {r : List PyData} : H a = some (.lst vs) → DpZs K Z H vs r.reverse → n = r.length → RepO K Z H (.ref a) (.acc n r) [a]
  | dk {a : Addr} {kvs : List (Key × V)} {kds : List (Key × PyData)} : H a = some (.dK kvs) → DKv K Z H kvs kds → RepO K Z H (.ref a) (.dk kds) [a]
  | dt {a : Addr} {kvs : List (List Key × V)} {kds : List (List Key × PyData)} : H a = some (.dT kvs) → DKv K Z H kvs kds → RepO K Z H (.ref a) (.dt kds) [a]
  | scr {a : Addr} {l : List Int} : ((Z a ∧ Rd H a (.lst (l.map V.int))) ∨ ∀ H : Hp, SqL K H a (l.map V.int)) → RepO K Z H (.ref a) (.scr l) []
  | src {a c : Addr} {cells : List Int} {left mixed turn : Int} : H a = some (.dK [(kCells, .ref c), (kLeft, .int left), (kMixed, .int mixed), (kTurn, .int turn)]) → H c = some (.lst (cells.map V.int)) → RepO K Z H (.ref a) (.src cells left mixed turn) [a, c]

/-- what lies between two states: fp is what might be written, fq what is owned behind -/
structure Fr (H : Hp) (fp : List Addr) (Z : Zs) (H' : Hp) (fq : List Addr) (Z' : Zs) : Prop where
  same : ∀ b o, H b = some o → b ∉ fp → H' b = some o
  zup : ∀ b, Z b → Z' b
  znew : ∀ b o, H b = some o → Z' b → Z b ∨ b ∈ fp
  new : ∀ b o, H b = some o → b ∈ fq → b ∈ fp
  zal : (∀ b, Z b → ∃ o, H b = some o) → ∀ b, Z' b → ∃ o, H' b = some o

/-- no tuple -/
def Mt : HO → Prop
  | .tup _ => False
  | _ => True
structure Own (Z : Zs) (H : Hp) (fp : List Addr) : Prop where
  nd : fp.Nodup
  nz : ∀ a ∈ fp, ¬ Z a
  al : ∀ a ∈ fp, ∃ o, H a = some o ∧ Mt o

section
variable {K : PySem.W.Frag} {Z Z' Z1 Z2 : Zs} {H H' H1 H2 : Hp} {fp fq fr g : List Addr}
theorem Fr.refl : Fr H fp Z H fp Z := ⟨fun _ _ h _ => h, fun _ z => z, fun _ _ _ z => .inl z, fun _ _ _ m => m, fun q => q⟩
theorem Fr.nil : Fr H fp Z H [] Z := ⟨fun _ _ h _ => h, fun _ z => z, fun _ _ _ z => .inl z, fun _ _ _ m => (nomatch m), fun q => q⟩
theorem Fr.trans (a : Fr H fp Z H1 fq Z1) (b : Fr H1 fq Z1 H2 fr Z2) : Fr H fp Z H2 fr Z2 where
  same := fun c o h n => b.same c o (a.same c o h n) fun m => n (a.new c o h m)
  zup := fun c z => b.zup c (a.zup c z)
  znew := fun c o h z => by
    by_cases m : c ∈ fp
    · exact .inr m
    · rcases b.znew c o (a.same c o h m) z with z | z
      · exact a.znew c o h z
      · exact .inr (a.new c o h z)
  new := fun c o h m => by
    by_cases n : c ∈ fp
    · exact n
    · exact a.new c o h (b.new c o (a.same c o h n) m)
  zal := fun q => b.zal (a.zal q)
/-- more may be written -/
theorem Fr.more (a : Fr H fp Z H1 fq Z1) (h : ∀ b ∈ fp, b ∈ fr) : Fr H fr Z H1 fq Z1 :=
  ⟨fun b o e n => a.same b o e fun m => n (h b m), a.zup, fun b o e z => (a.znew b o e z).imp id (h b), fun b o e m => h b (a.new b o e m), a.zal⟩
theorem Fr.less (a : Fr H fp Z H1 fq Z1) (h : ∀ b ∈ fr, b ∈ fq) : Fr H fp Z H1 fr Z1 :=
  ⟨a.same, a.zup, a.znew, fun b o e m => a.new b o e (h b m), a.zal⟩
/-- what stands aside stays -/
theorem Fr.aside (a : Fr H fp Z H1 fq Z1) : Fr H (g ++ fp) Z H1 (g ++ fq) Z1 where
  same := fun b o e n => a.same b o e fun m => n (List.mem_append_right _ m)
  zup := a.zup
  znew := fun b o e z => (a.znew b o e z).imp id (List.mem_append_right _)
  new := fun b o e m => (List.mem_append.mp m).elim (List.mem_append_left _) fun m => List.mem_append_right _ (a.new b o e m)
  zal := a.zal

/-- fp has no tuple -/
abbrev Nt (H : Hp) (fp : List Addr) : Prop := ∀ b xs, H b = some (.tup xs) → b ∉ fp
theorem LLs.keep (a : Fr H fp Z H' fq Z') (nt : Nt H fp) {bs : List Addr} {ls : List (List PyData)} (dj : ∀ b ∈ bs, b ∉ fp) (nz : ∀ b, Z b → b ∉ fp) (h : LLs K Z H bs ls) : LLs K Z' H' bs ls := by
  induction h with
  | nil => exact .nil
  | cons e d _ ih => exact .cons (a.same _ _ e (dj _ List.mem_cons_self)) (d.keep a.zup (fun b o z q => a.same b o q (nz b z)) fun b xs q => a.same b _ q (nt b xs q)) (ih fun b m => dj b (List.mem_cons_of_mem _ m))
theorem RepO.keep {v : V} {o : Ob} (a : Fr H fp Z H' fq Z') (nt : Nt H fp) (dj : ∀ b ∈ g, b ∉ fp) (nz : ∀ b, Z b → b ∉ fp) (h : RepO K Z H v o g) : RepO K Z' H' v o g := by
  cases h with
  | fr d => exact .fr (d.keep a.zup (fun b o z q => a.same b o q (nz b z)) fun b xs q => a.same b _ q (nt b xs q))
  | lst e d => exact .lst (a.same _ _ e (dj _ List.mem_cons_self)) (d.keep a.zup (fun b o z q => a.same b o q (nz b z)) fun b xs q => a.same b _ q (nt b xs q))
  | ll e d => exact .ll (a.same _ _ e (dj _ List.mem_cons_self)) (d.keep a nt (fun b m => dj b (List.mem_cons_of_mem _ m)) nz)
  | acc e d hn => exact .acc (a.same _ _ e (dj _ List.mem_cons_self)) (d.keep a.zup (fun b o z q => a.same b o q (nz b z)) fun b xs q => a.same b _ q (nt b xs q)) hn
  | dk e d => exact .dk (a.same _ _ e (dj _ List.mem_cons_self)) (d.keep a.zup (fun b o z q => a.same b o q (nz b z)) fun b xs q => a.same b _ q (nt b xs q))
  | dt e d => exact .dt (a.same _ _ e (dj _ List.mem_cons_self)) (d.keep a.zup (fun b o z q => a.same b o q (nz b z)) fun b xs q => a.same b _ q (nt b xs q))
  | scr e => exact .scr (e.imp (fun ⟨z, e⟩ => ⟨a.zup _ z, e.imp (fun e => a.same _ _ e (nz _ z)) fun ⟨o, e⟩ => ⟨o, a.same _ _ e (nz _ z)⟩⟩) id)
  | src e d => exact .src (a.same _ _ e (dj _ List.mem_cons_self)) (a.same _ _ d (dj _ (List.mem_cons_of_mem _ List.mem_cons_self)))
theorem LLs.alive {bs : List Addr} {ls : List (List PyData)} (h : LLs K Z H bs ls) : ∀ b ∈ bs, ∃ o, H b = some o ∧ Mt o := by
  induction h with
  | nil => intro b m; cases m
  | cons e _ _ ih =>
    intro b m
    rcases List.mem_cons.mp m with rfl | m
    · exact ⟨_, e, trivial⟩
    · exact ih b m
theorem RepO.alive {v : V} {o : Ob} (h : RepO K Z H v o g) : ∀ b ∈ g, ∃ o, H b = some o ∧ Mt o := by
  cases h with
  | fr _ => intro b m; cases m
  | lst e _ =>
    intro b m
    rcases List.mem_cons.mp m with rfl | m
    · exact ⟨_, e, trivial⟩
    · cases m
  | ll e d =>
    intro b m
    rcases List.mem_cons.mp m with rfl | m
    · exact ⟨_, e, trivial⟩
    · exact d.alive b m
  | acc e _ _ =>
    intro b m
    rcases List.mem_cons.mp m with rfl | m
    · exact ⟨_, e, trivial⟩
    · cases m
  | dk e _ =>
    intro b m
    rcases List.mem_cons.mp m with rfl | m
    · exact ⟨_, e, trivial⟩
    · cases m
  | dt e _ =>
    intro b m
    rcases List.mem_cons.mp m with rfl | m
    · exact ⟨_, e, trivial⟩
    · cases m
  | scr _ => intro b m; cases m
  | src e d =>
    intro b m
    rcases List.mem_cons.mp m with rfl | m
    · exact ⟨_, e, trivial⟩
    · rcases List.mem_cons.mp m with rfl | m
      · exact ⟨_, d, trivial⟩
      · cases m

/-! ### owning -/
theorem Own.nil : Own Z H [] := ⟨List.nodup_nil, fun _ m => (nomatch m), fun _ m => (nomatch m)⟩
theorem Own.left (h : Own Z H (g ++ fp)) : Own Z H g := ⟨(List.nodup_append.mp h.nd).1, fun a m => h.nz a (List.mem_append_left _ m), fun a m => h.al a (List.mem_append_left _ m)⟩
theorem Own.right (h : Own Z H (g ++ fp)) : Own Z H fp := ⟨(List.nodup_append.mp h.nd).2.1, fun a m => h.nz a (List.mem_append_right _ m), fun a m => h.al a (List.mem_append_right _ m)⟩
theorem Own.apart (h : Own Z H (g ++ fp)) : ∀ b ∈ g, b ∉ fp := fun b m n => (List.nodup_append.mp h.nd).2.2 b m b n rfl
theorem Own.nt (h : Own Z H fp) : Nt H fp := fun b xs e m => by
  obtain ⟨o, q, t⟩ := h.al b m
  rw [e] at q; cases q; exact t
theorem Own.nzf (h : Own Z H fp) : ∀ b, Z b → b ∉ fp := fun b z m => h.nz b m z
/-- fp is worked on, g stands aside -/
theorem Own.aside (h : Own Z H (g ++ fp)) (a : Fr H fp Z H' fq Z') (h' : Own Z' H' fq) : Own Z' H' (g ++ fq) where
  nd := by
    refine List.nodup_append.mpr ⟨h.left.nd, h'.nd, fun x m y n e => ?_⟩
    subst e
    obtain ⟨o, q, _⟩ := h.al x (List.mem_append_left _ m)
    exact h.apart x m (a.new x o q n)
  nz := fun x m z => by
    rcases List.mem_append.mp m with m | m
    · obtain ⟨o, q, _⟩ := h.left.al x m
      rcases a.znew x o q z with z | z
      · exact h.left.nz x m z
      · exact h.apart x m z
    · exact h'.nz x m z
  al := fun x m => by
    rcases List.mem_append.mp m with m | m
    · obtain ⟨o, q, t⟩ := h.left.al x m
      exact ⟨o, a.same x o q (h.apart x m), t⟩
    · exact h'.al x m
/-- nothing is worked on: new things -/
theorem Own.fresh (h : Own Z H g) (a : Fr H [] Z H' fq Z') (h' : Own Z' H' fq) : Own Z' H' (g ++ fq) := by
  have h0 : Own Z H (g ++ []) := by rw [List.append_nil]; exact h
  exact h0.aside a h'
theorem Own.still (h : Own Z H g) (a : Fr H [] Z H' fq Z') : Own Z' H' g :=
  { nd := h.nd
    nz := fun x m z => by
      obtain ⟨o, q, _⟩ := h.al x m
      rcases a.znew x o q z with z | z
      · exact h.nz x m z
      · cases z
    al := fun x m => by
      obtain ⟨o, q, t⟩ := h.al x m
      exact ⟨o, a.same x o q (by simp), t⟩ }
theorem Own.swap (h : Own Z H (g ++ fp)) : Own Z H (fp ++ g) :=
  ⟨by
    obtain ⟨a, b, c⟩ := List.nodup_append.mp h.nd
    exact List.nodup_append.mpr ⟨b, a, fun x m y n e => c y n x m e.symm⟩, fun x m => h.nz x (List.mem_append.mpr (List.mem_append.mp m).symm), fun x m => h.al x (List.mem_append.mpr (List.mem_append.mp m).symm)⟩
theorem RepO.still {v : V} {o : Ob} (a : Fr H [] Z H' fq Z') (h : RepO K Z H v o g) : RepO K Z' H' v o g := h.keep a (fun _ _ _ m => (nomatch m)) (fun _ _ m => (nomatch m)) fun _ _ m => (nomatch m)
theorem DpZ.still {v : V} {d : PyData} (a : Fr H [] Z H' fq Z') (h : DpZ K Z H v d) : DpZ K Z' H' v d := h.keep a.zup (fun b o _ q => a.same b o q (by simp)) fun b xs q => a.same b _ q (by simp)
theorem DpZs.still {v : List V} {d : List PyData} (a : Fr H [] Z H' fq Z') (h : DpZs K Z H v d) : DpZs K Z' H' v d := h.keep a.zup (fun b o _ q => a.same b o q (by simp)) fun b xs q => a.same b _ q (by simp)
end

/-! ## the locals -/
abbrev Env := List (Option Ob)
/-- the slots: σ bears ρ, whose owned addresses are fp (each slot's own, one behind another) -/
inductive ER (K : PySem.W.Frag) (Z : Zs) (H : Hp) : L2.St → Env → List Addr → Prop
  | nil : ER K Z H [] [] []
  | no {x : Option V} {σ : L2.St} {ρ : Env} {fp : List Addr} : ER K Z H σ ρ fp → ER K Z H (x :: σ) (none :: ρ) fp
  | one {v : V} {o : Ob} {g : List Addr} {σ : L2.St} {ρ : Env} {fp : List Addr} : RepO K Z H v o g → ER K Z H σ ρ fp → ER K Z H (some v :: σ) (some o :: ρ) (g ++ fp)
section
variable {K : PySem.W.Frag} {Z Z' : Zs} {H H' : Hp} {fp fq g : List Addr} {σ : L2.St} {ρ : Env}
theorem ER.keep (a : Fr H g Z H' fq Z') (nt : Nt H g) (dj : ∀ b ∈ fp, b ∉ g) (nz : ∀ b, Z b → b ∉ g) (h : ER K Z H σ ρ fp) : ER K Z' H' σ ρ fp := by
  induction h with
  | nil => exact .nil
  | no _ ih => exact .no (ih dj)
  | one r _ ih => exact .one (r.keep a nt (fun b m => dj b (List.mem_append_left _ m)) nz) (ih fun b m => dj b (List.mem_append_right _ m))
theorem ER.still (a : Fr H [] Z H' fq Z') (h : ER K Z H σ ρ fp) : ER K Z' H' σ ρ fp := h.keep a (fun _ _ _ m => (nomatch m)) (fun _ _ m => (nomatch m)) fun _ _ m => (nomatch m)
theorem ER.len (h : ER K Z H σ ρ fp) : σ.length = ρ.length := by
  induction h with
  | nil => rfl
  | no _ ih => simp [ih]
  | one _ _ ih => simp [ih]
theorem ER.get {i : Nat} {o : Ob} (h : ER K Z H σ ρ fp) (e : ρ[i]? = some (some o)) : ∃ v g, σ[i]? = some (some v) ∧ RepO K Z H v o g ∧ ∀ b ∈ g, b ∈ fp := by
  induction h generalizing i with
  | nil => simp at e
  | no _ ih =>
    cases i with
    | zero => simp at e
    | succ i =>
      obtain ⟨v, g, h1, h2, h3⟩ := ih (i := i) (by simpa using e)
      exact ⟨v, g, by simpa using h1, h2, h3⟩
  | one r _ ih =>
    cases i with
    | zero =>
      simp at e
      subst e
      exact ⟨_, _, rfl, r, fun b m => List.mem_append_left _ m⟩
    | succ i =>
      obtain ⟨v, g, h1, h2, h3⟩ := ih (i := i) (by simpa using e)
      exact ⟨v, g, by simpa using h1, h2, fun b m => List.mem_append_right _ (h3 b m)⟩
end
/-- the whole state of a body -/
structure Stt (K : PySem.W.Frag) (Z : Zs) (H : Hp) (σ : L2.St) (ρ : Env) (fp : List Addr) : Prop where
  er : ER K Z H σ ρ fp
  own : Own Z H fp
  za : ∀ b, Z b → ∃ o, H b = some o
section
variable {K : PySem.W.Frag} {Z Z' : Zs} {H H' : Hp} {fp fq g : List Addr} {σ : L2.St} {ρ : Env}
theorem Stt.still (a : Fr H [] Z H' fq Z') (h : Stt K Z H σ ρ fp) : Stt K Z' H' σ ρ fp := ⟨h.er.still a, h.own.still a, a.zal h.za⟩
end
end DL

namespace DL
open PySem PySem.Spec PyProof.Rows L2

/-! ## judgements -/
abbrev F1 := Env → Option Ob
/-- pure, to be read at once -/
def tR (K : PySem.W.Frag) (f : F1) : TE := fun σ H Q => ∃ Z ρ fp o, Stt K Z H σ ρ fp ∧ f ρ = some o ∧ ∀ Z' H' v g, RepO K Z' H' v o g → Fr H [] Z H' [] Z' → Q v H'
/-- pure, apart from all else -/
def tP (K : PySem.W.Frag) (f : F1) : TE := fun σ H Q => ∃ Z ρ fp o, Stt K Z H σ ρ fp ∧ f ρ = some o ∧ ∀ Z' H' v g, RepO K Z' H' v o g → Own Z' H' g → Fr H [] Z H' g Z' → Q v H'
abbrev PR (X : Cx) (e : Expr) (f : F1) : Prop := PE X e (tR X.K f)
abbrev DP (X : Cx) (e : Expr) (f : F1) : Prop := PE X e (tP X.K f)
theorem PE.imp {X : Cx} {e : Expr} {t t' : TE} (h : PE X e t) (k : ∀ σ H Q, t' σ H Q → t σ H Q) : PE X e t' := ⟨fun pins s σ H Q I q => h.run pins s σ H Q I (k σ H Q q)⟩
theorem tP_tR {K : PySem.W.Frag} {f : F1} {σ : L2.St} {H : Hp} {Q : VK} (h : tR K f σ H Q) : tP K f σ H Q := by
  obtain ⟨Z, ρ, fp, o, S, e, k⟩ := h
  exact ⟨Z, ρ, fp, o, S, e, fun Z' H' v g r _ a => k Z' H' v g r (a.less fun _ m => (nomatch m))⟩
theorem DP.pr {X : Cx} {e : Expr} {f : F1} (h : DP X e f) : PR X e f := PE.imp h fun _ _ _ q => tP_tR q

/-! ## data out of objects -/
def asD : Ob → Option PyData
  | .fr d => some d
  | _ => none
def asI : Ob → Option Int
  | .fr (.int i) => some i
  | _ => none
def asB : Ob → Option Bool
  | .fr (.bool b) => some b
  | _ => none
/-- a list's or tuple's items, to be read -/
def asSeq : Ob → Option (List PyData)
  | .fr (.list l) => some l
  | .fr (.tuple l) => some l
  | .lst l => some l
  | .acc _ r => some r.reverse
  | .scr l => some (l.map .int)
  | _ => none
def asLst : Ob → Option (List PyData)
  | .fr (.list l) => some l
  | .lst l => some l
  | .acc _ r => some r.reverse
  | _ => none
def asTup : Ob → Option (List PyData)
  | .fr (.tuple l) => some l
  | _ => none
/-- the data that it reads as -/
def asData : Ob → Option PyData
  | .fr d => some d
  | .lst l => some (.list l)
  | .acc _ r => some (.list r.reverse)
  | _ => none
section
variable {K : PySem.W.Frag} {Z : Zs} {H : Hp} {v : V} {o : Ob} {g : List Addr}
theorem asD_rep {d : PyData} (r : RepO K Z H v o g) (e : asD o = some d) : DpZ K Z H v d ∧ g = [] := by
  cases r with
  | fr h => cases e; exact ⟨h, rfl⟩
  | _ => cases e
theorem asI_rep {i : Int} (r : RepO K Z H v o g) (e : asI o = some i) : v = .int i := by
  cases r with
  | fr h =>
    rename_i d
    cases d with
    | int j => cases e; cases h; rfl
    | _ => cases e
  | _ => cases e
theorem asI_eq {i : Int} (e : asI o = some i) : o = .fr (.int i) := by
  cases o with
  | fr d =>
    cases d with
    | int j => cases e; rfl
    | _ => cases e
  | _ => cases e
theorem asB_rep {b : Bool} (r : RepO K Z H v o g) (e : asB o = some b) : v = .bl b := by
  cases r with
  | fr h =>
    rename_i d
    cases d with
    | bool j => cases e; cases h; rfl
    | _ => cases e
  | _ => cases e
theorem asLst_rep {l : List PyData} (r : RepO K Z H v o g) (e : asLst o = some l) : ∃ a vs, v = .ref a ∧ H a = some (.lst vs) ∧ DpZs K Z H vs l := by
  cases r with
  | fr h =>
    rename_i d
    cases d with
    | list l' =>
      cases e
      cases h with
      | lst _ s t => exact ⟨_, _, rfl, s, t⟩
    | _ => cases e
  | lst h t => cases e; exact ⟨_, _, rfl, h, t⟩
  | acc h t _ => cases e; exact ⟨_, _, rfl, h, t⟩
  | _ => cases e
theorem asTup_rep {l : List PyData} (r : RepO K Z H v o g) (e : asTup o = some l) : ∃ a vs, v = .ref a ∧ SqT K H a vs ∧ DpZs K Z H vs l := by
  cases r with
  | fr h =>
    rename_i d
    cases d with
    | tuple l' =>
      cases e
      exact h.sqt (a := 0)
    | _ => cases e
  | _ => cases e
theorem scr_ints : ∀ l : List Int, DpZs K Z H (l.map V.int) (l.map PyData.int)
  | [] => .nil
  | i :: l => .cons (.int i) (scr_ints l)
theorem asSeq_rep {l : List PyData} (r : RepO K Z H v o g) (e : asSeq o = some l) : ∃ a vs, v = .ref a ∧ (SqL K H a vs ∨ SqT K H a vs) ∧ DpZs K Z H vs l := by
  cases r with
  | fr h =>
    rename_i d
    cases d with
    | list l' =>
      cases e
      cases h with
      | lst _ s t => exact ⟨_, _, rfl, .inl (.of s), t⟩
    | tuple l' =>
      cases e
      obtain ⟨a, xs, e, s, t⟩ := h.sqt (a := 0)
      exact ⟨a, xs, e, .inr s, t⟩
    | _ => cases e
  | lst h t => cases e; exact ⟨_, _, rfl, .inl (.of h), t⟩
  | acc h t _ => cases e; exact ⟨_, _, rfl, .inl (.of h), t⟩
  | scr h =>
    cases e
    rcases h with ⟨_, h⟩ | h
    · exact ⟨_, _, rfl, .inl (.inl h), scr_ints _⟩
    · exact ⟨_, _, rfl, .inl (h H), scr_ints _⟩
  | _ => cases e
theorem asData_rep {d : PyData} (r : RepO K Z H v o g) (e : asData o = some d) : Dp K H v d := by
  cases r with
  | fr h => cases e; exact h.dp
  | lst h t => cases e; exact .lst (.of h) t.dp
  | acc h t _ => cases e; exact .lst (.of h) t.dp
  | _ => cases e
end

/-! ## names, constants -/
def rdV (i : Nat) : F1 := fun ρ => (ρ[i]?).join
def frV (i : Nat) : F1 := fun ρ => ((ρ[i]?).join.bind asD).map .fr
def kO (d : PyData) : F1 := fun _ => some (.fr d)
section
variable {X : Cx} {pos : Pos}
theorem r_var (i : Nat) {x : Str} (hN : X.N[i]? = some x := by rfl) (hv : Vis X.env.scope x := by first | exact Or.inl rfl | exact Or.inr (Or.inl rfl) | exact Or.inr (Or.inr rfl)) (hd : (x == ("__debug__" : Str)) = false := by decide)
    (hcd : (x == ("__classdict__" : Str)) = false := by decide) : PR X (.Name x pos) (rdV i) := PE.imp (pe_var hN hv hd hcd) fun σ H Q h => by
  obtain ⟨Z, ρ, fp, o, S, e, k⟩ := h
  have e' : ρ[i]? = some (some o) := by
    unfold rdV at e
    cases q : ρ[i]? with
    | none => rw [q] at e; cases e
    | some x => rw [q] at e; rw [show x = some o from e]
  obtain ⟨v, g, h1, h2, _⟩ := S.er.get e'
  exact ⟨v, h1, k Z H v g h2 .refl⟩
theorem d_var (i : Nat) {x : Str} (hN : X.N[i]? = some x := by rfl) (hv : Vis X.env.scope x := by first | exact Or.inl rfl | exact Or.inr (Or.inl rfl) | exact Or.inr (Or.inr rfl)) (hd : (x == ("__debug__" : Str)) = false := by decide)
    (hcd : (x == ("__classdict__" : Str)) = false := by decide) : DP X (.Name x pos) (frV i) := PE.imp (pe_var hN hv hd hcd) fun σ H Q h => by
  obtain ⟨Z, ρ, fp, o, S, e, k⟩ := h
  unfold frV at e
  cases q : (ρ[i]?).join with
  | none => rw [q] at e; cases e
  | some o' =>
    rw [q] at e
    have e' : ρ[i]? = some (some o') := by
      cases q2 : ρ[i]? with
      | none => rw [q2] at q; cases q
      | some x => rw [q2] at q; rw [show x = some o' from q]
    cases h3 : asD o' with
    | none =>
      have e2 : (asD o').map Ob.fr = some o := e
      rw [h3] at e2
      cases e2
    | some d =>
      have e2 : (asD o').map Ob.fr = some o := e
      rw [h3] at e2
      cases e2
      obtain ⟨v, g, h1, h2, _⟩ := S.er.get e'
      obtain ⟨h4, rfl⟩ := asD_rep h2 h3
      exact ⟨v, h1, k Z H v [] (.fr h4) .nil .refl⟩
theorem d_k {e : Expr} {v : V} {d : PyData} (h : PE X e (tC v)) (r : ∀ Z H, DpZ X.K Z H v d) : DP X e (kO d) := PE.imp h fun σ H Q h => by
  obtain ⟨Z, ρ, fp, o, S, e, k⟩ := h
  cases e
  exact k Z H v [] (.fr (r Z H)) .nil .nil
theorem d_int {i : Int} {j} : DP X (.Constant (.int i) j pos) (kO (.int i)) := d_k pe_int fun _ _ => .int i
theorem d_bl {b : Bool} {j} : DP X (.Constant (.bool b) j pos) (kO (.bool b)) := d_k pe_bl fun _ _ => .bl b
theorem d_non {j} : DP X (.Constant .none j pos) (kO .none) := d_k pe_non fun _ _ => .non
theorem d_str {x : Str} {j} : DP X (.Constant (.str x) j pos) (kO (.str x)) := d_k pe_str fun _ _ => .str x
end

/-! ## operations on values that are read -/
abbrev Rst (K : PySem.W.Frag) (Z : Zs) (H : Hp) (o : Ob) (Q : VK) : Prop := ∀ Z' H' v g, RepO K Z' H' v o g → Own Z' H' g → Fr H [] Z H' g Z' → Q v H'
abbrev Za (Z : Zs) (H : Hp) : Prop := ∀ b, Z b → ∃ o, H b = some o
def Rd1 (K : PySem.W.Frag) (r : V → Hp → VK → Prop) (g : Ob → Option Ob) : Prop := ∀ Z H v o h o' Q, Za Z H → RepO K Z H v o h → g o = some o' → Rst K Z H o' Q → r v H Q
def Rd2 (K : PySem.W.Frag) (r : R2) (g : Ob → Ob → Option Ob) : Prop := ∀ Z H v u o p h h' o' Q, Za Z H → RepO K Z H v o h → RepO K Z H u p h' → g o p = some o' → Rst K Z H o' Q → r v u H Q
section
variable {K : PySem.W.Frag} {Z : Zs} {H : Hp} {Q : VK} {o : Ob}
/-- a value that needs no object -/
theorem Rst.flat {v : V} {d : PyData} (k : Rst K Z H (.fr d) Q) (h : DpZ K Z H v d) : Q v H := k Z H v [] (.fr h) .nil .nil
theorem upd_fr {H : Hp} {Z : Zs} {p : Addr} {o : HO} {g : List Addr} (np : H p = none) (Z' : Zs) (zu : ∀ a, Z a → Z' a) (zn : ∀ a, Z' a → Z a ∨ a = p) (hg : ∀ b ∈ g, b = p) : Fr H [] Z (upd H p o) g Z' where
  same := fun b u e _ => by rw [upd_ne (ne_of_none e np)]; exact e
  zup := zu
  znew := fun b u e z => by
    rcases zn b z with z | rfl
    · exact .inl z
    · rw [np] at e; cases e
  new := fun b u e m => by
    have q := hg b m
    subst q
    rw [np] at e; cases e
  zal := fun q b z => by
    by_cases e : b = p
    · subst e; exact ⟨_, upd_same⟩
    · rcases zn b z with z | z
      · rw [upd_ne e]; exact q b z
      · exact absurd z e
/-- a new list -/
theorem Rst.lst {vs : List V} {l : List PyData} (k : Rst K Z H (.lst l) Q) (h : DpZs K Z H vs l) (za : Za Z H) : ∀ p, H p = none → Q (.ref p) (upd H p (.lst vs)) := fun p np => by
  have a : Fr H [] Z (upd H p (.lst vs)) [p] Z := upd_fr np Z (fun _ z => z) (fun _ z => .inl z) (fun b m => by simpa using m)
  refine k Z (upd H p (.lst vs)) (.ref p) [p] (.lst upd_same (h.still a)) ⟨by simp, fun b m z => ?_, fun b m => ?_⟩ a
  · obtain rfl : b = p := by simpa using m
    obtain ⟨o, q⟩ := za b z
    rw [np] at q; cases q
  · obtain rfl : b = p := by simpa using m
    exact ⟨_, upd_same, trivial⟩
/-- a new tuple -/
theorem Rst.tup {vs : List V} {l : List PyData} (k : Rst K Z H (.fr (.tuple l)) Q) (h : DpZs K Z H vs l) : ∀ p, H p = none → Q (.ref p) (upd H p (.tup vs)) := fun p np => by
  have a : Fr H [] Z (upd H p (.tup vs)) [] Z := upd_fr np Z (fun _ z => z) (fun _ z => .inl z) (fun b m => (nomatch m))
  exact k Z (upd H p (.tup vs)) (.ref p) [] (.fr (.tup upd_same (h.still a))) .nil a
end
end DL

namespace DL
open PySem PySem.Spec PyProof.Rows L2

/-! ## composition -/
def o1 (g : Ob → Option Ob) (fa : F1) : F1 := fun ρ => (fa ρ).bind g
def o2 (g : Ob → Ob → Option Ob) (fa fb : F1) : F1 := fun ρ => (fa ρ).bind fun x => (fb ρ).bind fun y => g x y
theorem bind_some {α β : Type} {x : Option α} {f : α → Option β} {b : β} (h : x.bind f = some b) : ∃ a, x = some a ∧ f a = some b := by
  cases x with
  | none => cases h
  | some a => exact ⟨a, rfl, h⟩
section
variable {X : Cx} {pos : Pos} {a b : Expr} {fa fb : F1}
theorem run2 {K : PySem.W.Frag} {r : R2} {g : Ob → Ob → Option Ob} (hg : Rd2 K r g) {σ : L2.St} {H : Hp} {Q : VK} (h : tP K (o2 g fa fb) σ H Q) : tOp r (tR K fa) (tR K fb) σ H Q := by
  obtain ⟨Z, ρ, fp, o, S, e, k⟩ := h
  obtain ⟨x, ex, e⟩ := bind_some e
  obtain ⟨y, ey, e⟩ := bind_some e
  exact ⟨Z, ρ, fp, x, S, ex, fun Z1 H1 v1 g1 r1 a1 => ⟨Z1, ρ, fp, y, S.still a1, ey, fun Z2 H2 v2 g2 r2 a2 =>
    hg Z2 H2 v1 v2 x y g1 g2 o Q (a2.zal (a1.zal S.za)) (r1.still a2) r2 e fun Z3 H3 v3 g3 r3 o3 a3 => k Z3 H3 v3 g3 r3 o3 ((a1.trans a2).trans a3)⟩⟩
theorem d_op2 {op : Operator} {r : R2} {g : Ob → Ob → Option Ob} (ho : OpR X (binaryOp op) r) (hg : Rd2 X.K r g) (ha : PR X a fa) (hb : PR X b fb) : DP X (.BinOp a op b pos) (o2 g fa fb) :=
  PE.imp (pe_op ho ha hb) fun _ _ _ h => run2 hg h
theorem d_cmp {op : CmpOp} {r : R2} {g : Ob → Ob → Option Ob} (ho : OpR X (compareOp op) r) (hg : Rd2 X.K r g) (ha : PR X a fa) (hb : PR X b fb) (hm : behindInMarks op b = false := by rfl) : DP X (.Compare a [op] [b] pos) (o2 g fa fb) :=
  PE.imp (pe_cmpR ho ha hb hm) fun _ _ _ h => run2 hg h
theorem d_un {op : UnaryOp} {r : V → Hp → VK → Prop} {g : Ob → Option Ob} (ho : UnR X (unaryOp op) r) (hg : Rd1 X.K r g) (ha : PR X a fa) : DP X (.UnaryOp op a pos) (o1 g fa) :=
  PE.imp (pe_un ho ha) fun σ H Q h => by
    obtain ⟨Z, ρ, fp, o, S, e, k⟩ := h
    obtain ⟨x, ex, e⟩ := bind_some e
    exact ⟨Z, ρ, fp, x, S, ex, fun Z1 H1 v1 g1 r1 a1 => hg Z1 H1 v1 x g1 o Q (a1.zal S.za) r1 e fun Z3 H3 v3 g3 r3 o3 a3 => k Z3 H3 v3 g3 r3 o3 (a1.trans a3)⟩
theorem d_ix {r : R2} {g : Ob → Ob → Option Ob} (ho : IxR X r) (hg : Rd2 X.K r g) (ha : PR X a fa) (hb : PR X b fb) (hs : PlainIx b := by intro _ _; rfl) : DP X (.Subscript a b pos) (o2 g fa fb) :=
  PE.imp (pe_ix ho ha hb hs) fun _ _ _ h => run2 hg h
end

/-! ## lists of values that are read -/
inductive ReL (K : PySem.W.Frag) (Z : Zs) (H : Hp) : List V → List Ob → Prop
  | nil : ReL K Z H [] []
  | cons {v : V} {vs : List V} {o : Ob} {os : List Ob} {g : List Addr} : RepO K Z H v o g → ReL K Z H vs os → ReL K Z H (v :: vs) (o :: os)
theorem ReL.still {K : PySem.W.Frag} {Z Z' : Zs} {H H' : Hp} {fq : List Addr} (a : Fr H [] Z H' fq Z') {vs : List V} {os : List Ob} (h : ReL K Z H vs os) : ReL K Z' H' vs os := by
  induction h with
  | nil => exact .nil
  | cons r _ ih => exact .cons (r.still a) ih
abbrev FL := Env → Option (List Ob)
def tRA (K : PySem.W.Frag) (f : FL) : TA := fun σ H Q => ∃ Z ρ fp os, Stt K Z H σ ρ fp ∧ f ρ = some os ∧ ∀ Z' H' vs, ReL K Z' H' vs os → Fr H [] Z H' [] Z' → Q vs H'
abbrev PRA (X : Cx) (es : List Expr) (f : FL) : Prop := PA X es (tRA X.K f)
theorem PA.imp {X : Cx} {e : List Expr} {t t' : TA} (h : PA X e t) (k : ∀ σ H Q, t' σ H Q → t σ H Q) : PA X e t' := ⟨fun pos pins s σ H Q I q => h.run pos pins s σ H Q I (k σ H Q q)⟩
def lNil : FL := fun _ => some []
def lCons (f : F1) (r : FL) : FL := fun ρ => (f ρ).bind fun o => (r ρ).bind fun os => some (o :: os)
section
variable {X : Cx} {pos p : Pos} {e : Expr} {es : List Expr} {f : F1} {fl : FL}
theorem ra_nil : PRA X [] lNil := PA.imp pa_nil fun σ H Q h => by
  obtain ⟨Z, ρ, fp, os, S, e, k⟩ := h
  cases e
  exact k Z H [] .nil .nil
theorem ra_cons (ha : PR X e f) (hr : PRA X es fl) (hs : starEach (e :: es) X.env = (false, eval e X.env) :: starEach es X.env := by rfl) : PRA X (e :: es) (lCons f fl) := PA.imp (pa_cons ha hr hs) fun σ H Q h => by
  obtain ⟨Z, ρ, fp, os, S, e, k⟩ := h
  obtain ⟨x, ex, e⟩ := bind_some e
  obtain ⟨ys, ey, e⟩ := bind_some e
  cases e
  exact ⟨Z, ρ, fp, x, S, ex, fun Z1 H1 v1 g1 r1 a1 => ⟨Z1, ρ, fp, ys, S.still a1, ey, fun Z2 H2 vs r2 a2 => k Z2 H2 (v1 :: vs) (.cons (r1.still a2) r2) (a1.trans a2)⟩⟩
def oL (g : List Ob → Option Ob) (fl : FL) : F1 := fun ρ => (fl ρ).bind g
def RdL (K : PySem.W.Frag) (r : List V → Hp → VK → Prop) (g : List Ob → Option Ob) : Prop := ∀ Z H vs os o' Q, Za Z H → ReL K Z H vs os → g os = some o' → Rst K Z H o' Q → r vs H Q
theorem runL {K : PySem.W.Frag} {r : List V → Hp → VK → Prop} {g : List Ob → Option Ob} (hg : RdL K r g) {σ : L2.St} {H : Hp} {Q : VK} (h : tP K (oL g fl) σ H Q) : tCB r (tRA K fl) σ H Q := by
  obtain ⟨Z, ρ, fp, o, S, e, k⟩ := h
  obtain ⟨x, ex, e⟩ := bind_some e
  exact ⟨Z, ρ, fp, x, S, ex, fun Z1 H1 vs r1 a1 => hg Z1 H1 vs x o Q (a1.zal S.za) r1 e fun Z3 H3 v3 g3 r3 o3 a3 => k Z3 H3 v3 g3 r3 o3 (a1.trans a3)⟩
theorem d_callB {id : String} {x : Str} {r : List V → Hp → VK → Prop} {g : List Ob → Option Ob} (hc : CallR X (.builtin id) r) (hgr : RdL X.K r g) (hg : Gl X x) (hm : X.mg x = none) (hv : bootBuiltins x = some (.builtin id)) (ha : PRA X (e :: es) fl)
    (hn : x ≠ "__name__" := by decide) (hdb : (x == ("__debug__" : Str)) = false := by decide) (he : starEach (e :: es) X.env = (false, eval e X.env) :: starEach es X.env := by rfl) (hpl : (backTo pos (starEach es X.env)).any (·.1) = false := by rfl) : DP X (.Call (.Name x p) (e :: es) [] pos) (oL g fl) :=
  PE.imp (pe_callB hc hg hm hv ha hn hdb he hpl) fun _ _ _ h => runL hgr h
theorem d_callTy {T : String} {x : Str} {r : List V → Hp → VK → Prop} {g : List Ob → Option Ob} (hc : CallR X (.type T) r) (hgr : RdL X.K r g) (hg : Gl X x) (hm : X.mg x = none) (hv : bootBuiltins x = some (.type T)) (ha : PRA X (e :: es) fl)
    (hn : x ≠ "__name__" := by decide) (hdb : (x == ("__debug__" : Str)) = false := by decide) (he : starEach (e :: es) X.env = (false, eval e X.env) :: starEach es X.env := by rfl) (hpl : (backTo pos (starEach es X.env)).any (·.1) = false := by rfl) : DP X (.Call (.Name x p) (e :: es) [] pos) (oL g fl) :=
  PE.imp (pe_callTy hc hg hm hv ha hn hdb he hpl) fun _ _ _ h => runL hgr h
end

/-! ## frozen argument lists, displays -/
/-- a fresh object, never to be written again -/
def fz : Ob → Option PyData
  | .fr d => some d
  | .lst l => some (.list l)
  | .ll l => some (.list (l.map .list))
  | .acc _ r => some (.list r.reverse)
  | _ => none
section
variable {K : PySem.W.Frag} {Z Z' Z0 : Zs} {H H' H0 : Hp} {g fp : List Addr}
theorem LLs.frz {bs : List Addr} {ls : List (List PyData)} (h : LLs K Z H bs ls) (zu : ∀ b, Z b → Z' b) (hz : ∀ b ∈ bs, Z' b) : DpZs K Z' H (bs.map V.ref) (ls.map .list) := by
  induction h with
  | nil => exact .nil
  | cons e d _ ih => exact .cons (.lst (hz _ List.mem_cons_self) e (d.keep zu (fun _ _ _ q => q) fun _ _ q => q)) (ih fun b m => hz b (List.mem_cons_of_mem _ m))
theorem RepO.frz {v : V} {o : Ob} {d : PyData} (h : RepO K Z H v o g) (e : fz o = some d) : DpZ K (fun b => Z b ∨ b ∈ g) H v d := by
  have zu : ∀ b, Z b → (Z b ∨ b ∈ g) := fun _ z => .inl z
  cases h with
  | fr h => cases e; exact h.keep zu (fun _ _ _ q => q) fun _ _ q => q
  | lst h t => cases e; exact .lst (.inr List.mem_cons_self) h (t.keep zu (fun _ _ _ q => q) fun _ _ q => q)
  | acc h t _ => cases e; exact .lst (.inr List.mem_cons_self) h (t.keep zu (fun _ _ _ q => q) fun _ _ q => q)
  | ll h t => cases e; exact .lst (.inr List.mem_cons_self) h (t.frz zu fun b m => .inr (List.mem_cons_of_mem _ m))
  | _ => cases e
/-- freezing what was made -/
theorem Fr.frz (a : Fr H fp Z H' (g ++ fp) Z') (ow : Own Z' H' (g ++ fp)) (h0 : Own Z H fp) : Fr H fp Z H' fp (fun b => Z' b ∨ b ∈ g) where
  same := a.same
  zup := fun b z => .inl (a.zup b z)
  znew := fun b o e z => by
    rcases z with z | m
    · exact a.znew b o e z
    · exact .inr (a.new b o e (List.mem_append_left _ m))
  new := fun b o e m => a.new b o e (List.mem_append_right _ m)
  zal := fun q b z => by
    rcases z with z | m
    · exact a.zal q b z
    · obtain ⟨o, e, _⟩ := ow.al b (List.mem_append_left _ m); exact ⟨o, e⟩
theorem Fr.frz0 (a : Fr H [] Z H' g Z') (ow : Own Z' H' g) : Fr H [] Z H' [] (fun b => Z' b ∨ b ∈ g) := by
  have a' : Fr H [] Z H' (g ++ []) Z' := by rw [List.append_nil]; exact a
  have ow' : Own Z' H' (g ++ []) := by rw [List.append_nil]; exact ow
  exact a'.frz ow' .nil
end
abbrev FD := Env → Option (List PyData)
def tFA (K : PySem.W.Frag) (f : FD) : TA := fun σ H Q => ∃ Z ρ fp os, Stt K Z H σ ρ fp ∧ f ρ = some os ∧ ∀ Z' H' vs, DpZs K Z' H' vs os → Fr H [] Z H' [] Z' → Q vs H'
abbrev DA (X : Cx) (es : List Expr) (f : FD) : Prop := PA X es (tFA X.K f)
def aNil : FD := fun _ => some []
def aCons (f : F1) (r : FD) : FD := fun ρ => (f ρ).bind fun o => (fz o).bind fun d => (r ρ).bind fun ds => some (d :: ds)
def aStar (f : F1) (r : FD) : FD := fun ρ => (f ρ).bind fun o => (asSeq o).bind fun xs => (r ρ).bind fun ds => some (xs ++ ds)
section
variable {X : Cx} {pos p : Pos} {e : Expr} {es : List Expr} {f : F1} {fd : FD}
theorem a_nil : DA X [] aNil := PA.imp pa_nil fun σ H Q h => by
  obtain ⟨Z, ρ, fp, os, S, e, k⟩ := h
  cases e
  exact k Z H [] .nil .nil
theorem a_cons (ha : DP X e f) (hr : DA X es fd) (hs : starEach (e :: es) X.env = (false, eval e X.env) :: starEach es X.env := by rfl) : DA X (e :: es) (aCons f fd) := PA.imp (pa_cons ha hr hs) fun σ H Q h => by
  obtain ⟨Z, ρ, fp, os, S, e, k⟩ := h
  obtain ⟨x, ex, e⟩ := bind_some e
  obtain ⟨d, ed, e⟩ := bind_some e
  obtain ⟨ys, ey, e⟩ := bind_some e
  cases e
  refine ⟨Z, ρ, fp, x, S, ex, fun Z1 H1 v1 g1 r1 o1 a1 => ?_⟩
  have a1' := a1.frz0 o1
  exact ⟨_, ρ, fp, ys, S.still a1', ey, fun Z2 H2 vs r2 a2 => k Z2 H2 (v1 :: vs) (.cons ((r1.frz ed).still a2) r2) (a1'.trans a2)⟩
theorem a_star (ha : PR X e f) (hr : DA X es fd) (hs : starEach (.Starred e p :: es) X.env = (true, eval e X.env) :: starEach es X.env := by rfl) : DA X (.Starred e p :: es) (aStar f fd) := PA.imp (StX.pa_star ha hr hs) fun σ H Q h => by
  obtain ⟨Z, ρ, fp, os, S, e, k⟩ := h
  obtain ⟨x, ex, e⟩ := bind_some e
  obtain ⟨d, ed, e⟩ := bind_some e
  obtain ⟨ys, ey, e⟩ := bind_some e
  cases e
  refine ⟨Z, ρ, fp, x, S, ex, fun Z1 H1 v1 g1 r1 a1 => ?_⟩
  obtain ⟨b, xs, rfl, hs, t⟩ := asSeq_rep r1 ed
  exact ⟨b, xs, rfl, hs.symm, Z1, ρ, fp, ys, S.still a1, ey, fun Z2 H2 vs r2 a2 => k Z2 H2 (xs ++ vs) ((t.still a2).append r2) (a1.trans a2)⟩
def short (l : List PyData) : Bool := Nat.ble l.length 16777216
theorem short_ok {l : List PyData} (h : short l = true) : l.length ≤ sizeLine := by
  rw [sizeLine_eq]; exact Nat.le_of_ble_eq_true h
def dTup (f : FD) : F1 := fun ρ => (f ρ).bind fun l => if short l then some (.fr (.tuple l)) else none
def dLst (f : FD) : F1 := fun ρ => (f ρ).bind fun l => if short l then some (.lst l) else none
theorem d_tup {x1} (h : DA X es fd) : DP X (.Tuple es x1 pos) (dTup fd) := PE.imp (pe_tup h) fun σ H Q h => by
  obtain ⟨Z, ρ, fp, o, S, e, k⟩ := h
  obtain ⟨l, el, e⟩ := bind_some e
  by_cases hl : short l = true
  · rw [if_pos hl] at e
    cases e
    exact ⟨Z, ρ, fp, l, S, el, fun Z1 H1 vs r1 a1 => ⟨by rw [r1.length]; exact short_ok hl, Rst.tup (fun Z3 H3 v3 g3 r3 o3 a3 => k Z3 H3 v3 g3 r3 o3 (a1.trans a3)) r1⟩⟩
  · rw [if_neg hl] at e; cases e
theorem d_lst (h : DA X es fd) : DP X (.List es pos) (dLst fd) := PE.imp (pe_lst h) fun σ H Q h => by
  obtain ⟨Z, ρ, fp, o, S, e, k⟩ := h
  obtain ⟨l, el, e⟩ := bind_some e
  by_cases hl : short l = true
  · rw [if_pos hl] at e
    cases e
    exact ⟨Z, ρ, fp, l, S, el, fun Z1 H1 vs r1 a1 => ⟨by rw [r1.length]; exact short_ok hl, Rst.lst (fun Z3 H3 v3 g3 r3 o3 a3 => k Z3 H3 v3 g3 r3 o3 (a1.trans a3)) r1 (a1.zal S.za)⟩⟩
  · rw [if_neg hl] at e; cases e
end

/-! ## tests -/
abbrev FB := Env → Option Bool
def tT (K : PySem.W.Frag) (f : FB) : TT := fun σ H Q => ∃ Z ρ fp b, Stt K Z H σ ρ fp ∧ f ρ = some b ∧ ∀ Z' H', Fr H [] Z H' [] Z' → Q b H'
abbrev TD (X : Cx) (e : Expr) (f : FB) : Prop := PT X e (tT X.K f)
abbrev TW (X : Cx) (e : Expr) (f : FB) : Prop := PW X e (tT X.K f)
theorem PT.imp {X : Cx} {e : Expr} {t t' : TT} (h : PT X e t) (k : ∀ σ H Q, t' σ H Q → t σ H Q) : PT X e t' := ⟨fun pins s σ H Q I q => h.run pins s σ H Q I (k σ H Q q)⟩
theorem PW.imp {X : Cx} {e : Expr} {t t' : TT} (h : PW X e t) (k : ∀ σ H Q, t' σ H Q → t σ H Q) : PW X e t' := ⟨fun whole pins s σ H Q I q => h.run whole pins s σ H Q I (k σ H Q q)⟩
def bO (f : F1) : FB := fun ρ => (f ρ).bind asB
def bNot (f : FB) : FB := fun ρ => (f ρ).map (!·)
def bAnd (f g : FB) : FB := fun ρ => (f ρ).bind fun b => if b then g ρ else some false
def bOr (f g : FB) : FB := fun ρ => (f ρ).bind fun b => if b then some true else g ρ
/-- a truth value out of a test -/
def oB (f : FB) : F1 := fun ρ => (f ρ).map fun b => .fr (.bool b)
def oIf (c : FB) (f g : F1) : F1 := fun ρ => (c ρ).bind fun b => if b then f ρ else g ρ
section
variable {X : Cx} {pos : Pos} {a b c : Expr} {rest : List Expr} {fa fb : F1} {ta tb : FB}
theorem tTest_of {K : PySem.W.Frag} {t : TE} {f : F1} {σ : L2.St} {H : Hp} {Q : Bool → Hp → Prop} (ht : ∀ Q : VK, tP K f σ H Q → t σ H Q) (h : tT K (bO f) σ H Q) : tTest t σ H Q := by
  obtain ⟨Z, ρ, fp, o, S, e, k⟩ := h
  obtain ⟨x, ex, e⟩ := bind_some e
  exact ht _ ⟨Z, ρ, fp, x, S, ex, fun Z1 H1 v1 g1 r1 o1 a1 => ⟨o, asB_rep r1 e, k Z1 H1 (a1.less fun _ m => (nomatch m))⟩⟩
theorem t_cmp {op : CmpOp} {r : R2} {g : Ob → Ob → Option Ob} (ho : OpR X (compareOp op) r) (hg : Rd2 X.K r g) (ha : PR X a fa) (hb : PR X b fb) (hm : behindInMarks op b = false := by rfl) : TD X (.Compare a [op] [b] pos) (bO (o2 g fa fb)) :=
  PT.imp (pt_cmpR ho ha hb hm) fun _ _ _ h => tTest_of (fun _ q => run2 hg q) h
theorem t_val {e : Expr} {f : F1} (h : DP X e f) (he : ∀ whole, isTrue e X.env whole = (do let v ← whole; standAt e.pos; holding [v] (truthy v)) := by intro _; rfl) : TD X e (bO f) :=
  PT.imp (pt_val h he) fun _ _ _ h => tTest_of (fun _ q => q) h
theorem t_not (h : TD X a ta) : TD X (.UnaryOp .Not a pos) (bNot ta) := PT.imp (pt_not h) fun σ H Q h => by
  obtain ⟨Z, ρ, fp, o, S, e, k⟩ := h
  obtain ⟨b, eb, rfl⟩ := Option.map_eq_some_iff.mp e
  exact ⟨Z, ρ, fp, b, S, eb, k⟩
theorem w_and1 (h : TD X a ta) : TW X (.BoolOp .And [a] pos) ta := pw_and1 h
theorem w_or1 (h : TD X a ta) : TW X (.BoolOp .Or [a] pos) ta := pw_or1 h
theorem w_and (h : TD X a ta) (h2 : TW X (.BoolOp .And (b :: rest) pos) tb) : TW X (.BoolOp .And (a :: b :: rest) pos) (bAnd ta tb) := PW.imp (pw_and h h2) fun σ H Q h => by
  obtain ⟨Z, ρ, fp, o, S, e, k⟩ := h
  obtain ⟨b, eb, e⟩ := bind_some e
  refine ⟨Z, ρ, fp, b, S, eb, fun Z1 H1 a1 => ?_⟩
  cases b with
  | true =>
    rw [if_pos rfl] at e ⊢
    exact ⟨Z1, ρ, fp, o, S.still a1, e, fun Z2 H2 a2 => k Z2 H2 (a1.trans a2)⟩
  | false =>
    rw [if_neg Bool.false_ne_true] at e ⊢
    cases e
    exact k Z1 H1 a1
theorem w_or (h : TD X a ta) (h2 : TW X (.BoolOp .Or (b :: rest) pos) tb) : TW X (.BoolOp .Or (a :: b :: rest) pos) (bOr ta tb) := PW.imp (pw_or h h2) fun σ H Q h => by
  obtain ⟨Z, ρ, fp, o, S, e, k⟩ := h
  obtain ⟨b, eb, e⟩ := bind_some e
  refine ⟨Z, ρ, fp, b, S, eb, fun Z1 H1 a1 => ?_⟩
  cases b with
  | true =>
    rw [if_pos rfl] at e ⊢
    cases e
    exact k Z1 H1 a1
  | false =>
    rw [if_neg Bool.false_ne_true] at e ⊢
    exact ⟨Z1, ρ, fp, o, S.still a1, e, fun Z2 H2 a2 => k Z2 H2 (a1.trans a2)⟩
theorem t_w {e : Expr} (h : TW X e ta) : TD X e ta := h.pt
/-- truth values -/
theorem d_not (h : DP X a fa) : DP X (.UnaryOp .Not a pos) (oB (bNot (bO fa))) := PE.imp (pe_not h) fun σ H Q h => by
  obtain ⟨Z, ρ, fp, o, S, e, k⟩ := h
  obtain ⟨b, eb, rfl⟩ := Option.map_eq_some_iff.mp e
  obtain ⟨b', eb', rfl⟩ := Option.map_eq_some_iff.mp (show Option.map (!·) (bO fa ρ) = some b from eb)
  obtain ⟨x, ex, e⟩ := bind_some eb'
  exact ⟨Z, ρ, fp, x, S, ex, fun Z1 H1 v1 g1 r1 o1 a1 => ⟨b', asB_rep r1 e, k Z1 H1 _ [] (.fr (.bl _)) .nil (a1.less fun _ m => (nomatch m))⟩⟩
def oAnd (f g : F1) : F1 := fun ρ => (f ρ).bind fun x => (asB x).bind fun b => if b then g ρ else some (.fr (.bool false))
def oOr (f g : F1) : F1 := fun ρ => (f ρ).bind fun x => (asB x).bind fun b => if b then some (.fr (.bool true)) else g ρ
theorem d_one {op} (h : DP X a fa) : DP X (.BoolOp op [a] pos) fa := pe_one h
theorem d_and (h : DP X a fa) (h2 : DP X (.BoolOp .And (b :: rest) pos) fb) : DP X (.BoolOp .And (a :: b :: rest) pos) (oAnd fa fb) := PE.imp (pe_and h h2) fun σ H Q h => by
  obtain ⟨Z, ρ, fp, o, S, e, k⟩ := h
  obtain ⟨x, ex, e⟩ := bind_some e
  obtain ⟨b, eb, e⟩ := bind_some e
  refine ⟨Z, ρ, fp, x, S, ex, fun Z1 H1 v1 g1 r1 o1 a1 => ⟨b, asB_rep r1 eb, ?_⟩⟩
  have a1' : Fr H [] Z H1 [] Z1 := a1.less fun _ m => (nomatch m)
  cases b with
  | true =>
    rw [if_pos rfl] at e ⊢
    exact ⟨Z1, ρ, fp, o, S.still a1', e, fun Z2 H2 v g r o2 a2 => k Z2 H2 v g r o2 (a1'.trans a2)⟩
  | false =>
    rw [if_neg Bool.false_ne_true] at e ⊢
    cases e
    exact k Z1 H1 _ [] (.fr (.bl _)) .nil a1'
theorem d_or (h : DP X a fa) (h2 : DP X (.BoolOp .Or (b :: rest) pos) fb) : DP X (.BoolOp .Or (a :: b :: rest) pos) (oOr fa fb) := PE.imp (pe_or h h2) fun σ H Q h => by
  obtain ⟨Z, ρ, fp, o, S, e, k⟩ := h
  obtain ⟨x, ex, e⟩ := bind_some e
  obtain ⟨b, eb, e⟩ := bind_some e
  refine ⟨Z, ρ, fp, x, S, ex, fun Z1 H1 v1 g1 r1 o1 a1 => ⟨b, asB_rep r1 eb, ?_⟩⟩
  have a1' : Fr H [] Z H1 [] Z1 := a1.less fun _ m => (nomatch m)
  cases b with
  | true =>
    rw [if_pos rfl] at e ⊢
    cases e
    exact k Z1 H1 _ [] (.fr (.bl _)) .nil a1'
  | false =>
    rw [if_neg Bool.false_ne_true] at e ⊢
    exact ⟨Z1, ρ, fp, o, S.still a1', e, fun Z2 H2 v g r o2 a2 => k Z2 H2 v g r o2 (a1'.trans a2)⟩
theorem d_if (hc : TD X c ta) (ha : DP X a fa) (hb : DP X b fb) : DP X (.IfExp c a b pos) (oIf ta fa fb) := PE.imp (pe_ifExp hc ha hb) fun σ H Q h => by
  obtain ⟨Z, ρ, fp, o, S, e, k⟩ := h
  obtain ⟨b, eb, e⟩ := bind_some e
  refine ⟨Z, ρ, fp, b, S, eb, fun Z1 H1 a1 => ?_⟩
  cases b with
  | true =>
    rw [if_pos rfl] at e ⊢
    exact ⟨Z1, ρ, fp, o, S.still a1, e, fun Z2 H2 v g r o2 a2 => k Z2 H2 v g r o2 (a1.trans a2)⟩
  | false =>
    rw [if_neg Bool.false_ne_true] at e ⊢
    exact ⟨Z1, ρ, fp, o, S.still a1, e, fun Z2 H2 v g r o2 a2 => k Z2 H2 v g r o2 (a1.trans a2)⟩
/-- a op b op' c of values that are truth values between -/
def oChain (g g' : Ob → Ob → Option Ob) (fa fb fc : F1) : F1 := fun ρ => (fa ρ).bind fun x => (fb ρ).bind fun y => (g x y).bind fun z => (asB z).bind fun b => if b then (fc ρ).bind fun w => g' y w else some (.fr (.bool false))
theorem runC {K : PySem.W.Frag} {r r' : R2} {g g' : Ob → Ob → Option Ob} {fc : F1} (hg : Rd2 K r g) (hg' : Rd2 K r' g') {σ : L2.St} {H : Hp} {Q : VK} (h : tP K (oChain g g' fa fb fc) σ H Q) : tChain r r' (tR K fa) (tR K fb) (tR K fc) σ H Q := by
  obtain ⟨Z, ρ, fp, o, S, e, k⟩ := h
  obtain ⟨x, ex, e⟩ := bind_some e
  obtain ⟨y, ey, e⟩ := bind_some e
  obtain ⟨z, ez, e⟩ := bind_some e
  obtain ⟨b, eb, e⟩ := bind_some e
  refine ⟨Z, ρ, fp, x, S, ex, fun Z1 H1 v1 g1 r1 a1 => ⟨Z1, ρ, fp, y, S.still a1, ey, fun Z2 H2 v2 g2 r2 a2 => hg Z2 H2 v1 v2 x y g1 g2 z _ (a2.zal (a1.zal S.za)) (r1.still a2) r2 ez fun Z3 H3 v3 g3 r3 o3 a3 => ⟨b, asB_rep r3 eb, ?_⟩⟩⟩
  have a3' : Fr H2 [] Z2 H3 [] Z3 := a3.less fun _ m => (nomatch m)
  have a := (a1.trans a2).trans a3'
  cases b with
  | true =>
    rw [if_pos rfl] at e ⊢
    obtain ⟨w, ew, e⟩ := bind_some e
    exact ⟨Z3, ρ, fp, w, S.still a, ew, fun Z4 H4 v4 g4 r4 a4 => hg' Z4 H4 v2 v4 y w g2 g4 o Q (a4.zal (a.zal S.za)) ((r2.still a3').still a4) r4 e fun Z5 H5 v5 g5 r5 o5 a5 => k Z5 H5 v5 g5 r5 o5 ((a.trans a4).trans a5)⟩
  | false =>
    rw [if_neg Bool.false_ne_true] at e ⊢
    cases e
    exact k Z3 H3 _ [] (.fr (.bl _)) .nil a
theorem d_chain {op op' : CmpOp} {r r' : R2} {g g' : Ob → Ob → Option Ob} {fc : F1} (ho : OpR X (compareOp op) r) (hg : Rd2 X.K r g) (ho' : OpR X (compareOp op') r') (hg' : Rd2 X.K r' g') (ha : PR X a fa) (hb : PR X b fb) (hc : PR X c fc) (hm : behindInMarks op' c = false := by rfl) :
    DP X (.Compare a [op, op'] [b, c] pos) (oChain g g' fa fb fc) := PE.imp (pe_chain ho ho' ha hb hc hm) fun _ _ _ h => runC hg hg' h
theorem t_chain {op op' : CmpOp} {r r' : R2} {g g' : Ob → Ob → Option Ob} {fc : F1} (ho : OpR X (compareOp op) r) (hg : Rd2 X.K r g) (ho' : OpR X (compareOp op') r') (hg' : Rd2 X.K r' g') (ha : PR X a fa) (hb : PR X b fb) (hc : PR X c fc) (hm : behindInMarks op' c = false := by rfl) :
    TD X (.Compare a [op, op'] [b, c] pos) (bO (oChain g g' fa fb fc)) := PT.imp (pt_chain ho ho' ha hb hc hm) fun _ _ _ h => tTest_of (fun _ q => runC hg hg' q) h
end
end DL

namespace DL
open PySem PySem.Spec PyProof.Rows L2

/-! ## plain looks at data -/
mutual
/-- nested at most so deep -/
def shal : Nat → PyData → Bool
  | n, .list l => match n with
    | 0 => false
    | m + 1 => shalAll m l
  | n, .tuple l => match n with
    | 0 => false
    | m + 1 => shalAll m l
  | _, .dict _ => false
  | _, _ => true
def shalAll : Nat → List PyData → Bool
  | _, [] => true
  | n, d :: ds => shal n d && shalAll n ds
end
mutual
theorem shal_depth : ∀ (d : PyData) (n : Nat), shal n d = true → d.depth ≤ n
  | .none, _, _ => by simp [PyData.depth]
  | .bool _, _, _ => by simp [PyData.depth]
  | .int _, _, _ => by simp [PyData.depth]
  | .str _, _, _ => by simp [PyData.depth]
  | .dict _, _, h => by simp [shal] at h
  | .list l, 0, h => by simp [shal] at h
  | .tuple l, 0, h => by simp [shal] at h
  | .list l, n + 1, h => by
    have := shalAll_depth l n (by simpa [shal] using h)
    simp only [PyData.depth]; omega
  | .tuple l, n + 1, h => by
    have := shalAll_depth l n (by simpa [shal] using h)
    simp only [PyData.depth]; omega
theorem shalAll_depth : ∀ (ds : List PyData) (n : Nat), shalAll n ds = true → PyData.depthAll ds ≤ n
  | [], _, _ => by simp [PyData.depthAll]
  | d :: ds, n, h => by
    have h : shal n d = true ∧ shalAll n ds = true := by simpa [shalAll] using h
    have h1 := shal_depth d n h.1
    have h2 := shalAll_depth ds n h.2
    simp only [PyData.depthAll]; omega
end
section
variable {K : PySem.W.Frag} {Z : Zs} {H : Hp}
mutual
theorem Dp.plain : ∀ {d : PyData} {v : V}, Dp K H v d → d.plain = true
  | .none, _, _ => by simp [PyData.plain]
  | .bool _, _, _ => by simp [PyData.plain]
  | .int _, _, _ => by simp [PyData.plain]
  | .str _, _, _ => by simp [PyData.plain]
  | .list ds, _, h => by
    cases h with
    | lst s t => simp [PyData.plain, DpAll.plain t]
  | .tuple ds, _, h => by
    cases h with
    | tup s t => simp [PyData.plain, DpAll.plain t]
  | .dict _, _, h => by cases h
theorem DpAll.plain : ∀ {ds : List PyData} {vs : List V}, DpAll K H vs ds → PyData.plainAll ds = true
  | [], _, _ => by simp [PyData.plainAll]
  | d :: ds, _, h => by
    cases h with
    | cons h t => simp [PyData.plainAll, Dp.plain h, DpAll.plain t]
end
end

/-! ## arithmetic -/
def small64 (i : Int) : Bool := decide (-(2 ^ 64) < i) && decide (i < 2 ^ 64)
def addI (x y : Ob) : Option Ob := (asI x).bind fun i => (asI y).bind fun j => some (.fr (.int (i + j)))
def subI (x y : Ob) : Option Ob := (asI x).bind fun i => (asI y).bind fun j => some (.fr (.int (i - j)))
def mulI (x y : Ob) : Option Ob := (asI x).bind fun i => (asI y).bind fun j => if small64 i || small64 j then some (.fr (.int (i * j))) else none
def divI (x y : Ob) : Option Ob := (asI x).bind fun i => (asI y).bind fun j => if decide (0 < j) && decide (j < 1073741824) then some (.fr (.int (i / j))) else none
def modI (x y : Ob) : Option Ob := (asI x).bind fun i => (asI y).bind fun j => if decide (0 < j) then some (.fr (.int (i % j))) else none
def negI (x : Ob) : Option Ob := (asI x).bind fun i => some (.fr (.int (-i)))
def shlI (x y : Ob) : Option Ob := (asI x).bind fun i => (asI y).bind fun j => if decide (0 ≤ j) && decide (j ≤ 1000000) && decide (i.natAbs < 2 ^ 64) then some (.fr (.int (i * 2 ^ j.toNat))) else none
def powI (x y : Ob) : Option Ob := (asI x).bind fun i => (asI y).bind fun j => if decide (0 ≤ j) && decide (j ≤ 1000000) && decide (i.natAbs < 2 ^ 64) then some (.fr (.int (i ^ j.toNat))) else none
section
variable {K : PySem.W.Frag}
theorem rd_add : Rd2 K (rI0 fun i j => .int (i + j)) addI := fun Z H v u o p h h' o' Q za r1 r2 e k => by
  obtain ⟨i, ei, e⟩ := bind_some e
  obtain ⟨j, ej, e⟩ := bind_some e
  cases e
  exact ⟨i, j, asI_rep r1 ei, asI_rep r2 ej, k.flat (.int _)⟩
theorem rd_sub : Rd2 K (rI0 fun i j => .int (i - j)) subI := fun Z H v u o p h h' o' Q za r1 r2 e k => by
  obtain ⟨i, ei, e⟩ := bind_some e
  obtain ⟨j, ej, e⟩ := bind_some e
  cases e
  exact ⟨i, j, asI_rep r1 ei, asI_rep r2 ej, k.flat (.int _)⟩
theorem ite_ob {c : Bool} {o o' : Ob} (h : (if c = true then some o else none) = some o') : c = true ∧ o = o' := by
  cases c with
  | true => exact ⟨rfl, Option.some.inj h⟩
  | false => cases h
theorem rd_mul : Rd2 K (rI CMul fun i j => .int (i * j)) mulI := fun Z H v u o p h h' o' Q za r1 r2 e k => by
  obtain ⟨i, ei, e⟩ := bind_some e
  obtain ⟨j, ej, e⟩ := bind_some e
  obtain ⟨c, rfl⟩ := ite_ob e
  refine ⟨i, j, asI_rep r1 ei, asI_rep r2 ej, ?_, k.flat (.int _)⟩
  rcases Bool.or_eq_true_iff.mp c with c | c
  · obtain ⟨a, b⟩ := Bool.and_eq_true_iff.mp c
    exact .inl ⟨of_decide_eq_true a, of_decide_eq_true b⟩
  · obtain ⟨a, b⟩ := Bool.and_eq_true_iff.mp c
    exact .inr ⟨of_decide_eq_true a, of_decide_eq_true b⟩
theorem rd_div : Rd2 K (rI CDiv fun i j => .int (i / j)) divI := fun Z H v u o p h h' o' Q za r1 r2 e k => by
  obtain ⟨i, ei, e⟩ := bind_some e
  obtain ⟨j, ej, e⟩ := bind_some e
  obtain ⟨c, rfl⟩ := ite_ob e
  obtain ⟨a, b⟩ := Bool.and_eq_true_iff.mp c
  exact ⟨i, j, asI_rep r1 ei, asI_rep r2 ej, ⟨of_decide_eq_true a, of_decide_eq_true b⟩, k.flat (.int _)⟩
theorem rd_mod : Rd2 K (rI (fun _ j => 0 < j) fun i j => .int (i % j)) modI := fun Z H v u o p h h' o' Q za r1 r2 e k => by
  obtain ⟨i, ei, e⟩ := bind_some e
  obtain ⟨j, ej, e⟩ := bind_some e
  obtain ⟨c, rfl⟩ := ite_ob e
  exact ⟨i, j, asI_rep r1 ei, asI_rep r2 ej, of_decide_eq_true c, k.flat (.int _)⟩
theorem rd_neg : Rd1 K (rU fun i => .int (-i)) negI := fun Z H v o h o' Q za r1 e k => by
  obtain ⟨i, ei, e⟩ := bind_some e
  cases e
  exact ⟨i, asI_rep r1 ei, k.flat (.int _)⟩
theorem cpow_of {i j : Int} (c : (decide (0 ≤ j) && decide (j ≤ 1000000) && decide (i.natAbs < 2 ^ 64)) = true) : CPow i j := by
  obtain ⟨a, b⟩ := Bool.and_eq_true_iff.mp c
  obtain ⟨a, c⟩ := Bool.and_eq_true_iff.mp a
  exact ⟨of_decide_eq_true a, of_decide_eq_true c, of_decide_eq_true b⟩
theorem rd_shl : Rd2 K (rI CPow fun i j => .int (i * 2 ^ j.toNat)) shlI := fun Z H v u o p h h' o' Q za r1 r2 e k => by
  obtain ⟨i, ei, e⟩ := bind_some e
  obtain ⟨j, ej, e⟩ := bind_some e
  obtain ⟨c, rfl⟩ := ite_ob e
  exact ⟨i, j, asI_rep r1 ei, asI_rep r2 ej, cpow_of c, k.flat (.int _)⟩
theorem rd_pow : Rd2 K (rI CPow fun i j => .int (i ^ j.toNat)) powI := fun Z H v u o p h h' o' Q za r1 r2 e k => by
  obtain ⟨i, ei, e⟩ := bind_some e
  obtain ⟨j, ej, e⟩ := bind_some e
  obtain ⟨c, rfl⟩ := ite_ob e
  exact ⟨i, j, asI_rep r1 ei, asI_rep r2 ej, cpow_of c, k.flat (.int _)⟩
end

/-! ## lists and tuples joined -/
def catT (x y : Ob) : Option Ob := (asTup x).bind fun l => (asTup y).bind fun m => if short (l ++ m) then some (.fr (.tuple (l ++ m))) else none
def catL (x y : Ob) : Option Ob := (asLst x).bind fun l => (asLst y).bind fun m => if short (l ++ m) then some (.lst (l ++ m)) else none
def repL (x y : Ob) : Option Ob := (asLst x).bind fun l => (asI y).bind fun j => if decide (-(2 ^ 63) ≤ j) && (decide (j < 2 ^ 63) && Nat.ble (l.length * j.toNat) 16777216) then some (.lst (List.replicate j.toNat l).flatten) else none
/-- + : whole numbers, tuples, lists -/
def addO (x y : Ob) : Option Ob := match addI x y with
  | some o => some o
  | none => match catT x y with
    | some o => some o
    | none => catL x y
def mulO (x y : Ob) : Option Ob := match mulI x y with
  | some o => some o
  | none => repL x y
section
variable {K : PySem.W.Frag} {Z : Zs} {H : Hp}
theorem Rd2.or {r r' : R2} {g g' : Ob → Ob → Option Ob} (h : Rd2 K r g) (h' : Rd2 K r' g') : Rd2 K (fun x y H Q => r x y H Q ∨ r' x y H Q) (fun x y => match g x y with
    | some o => some o
    | none => g' x y) := fun Z H v u o p a a' o' Q za r1 r2 e k => by
  have e : (match g o p with
    | some o => some o
    | none => g' o p) = some o' := e
  cases q : g o p with
  | some z => rw [q] at e; cases e; exact .inl (h Z H v u o p a a' _ Q za r1 r2 q k)
  | none => rw [q] at e; exact .inr (h' Z H v u o p a a' _ Q za r1 r2 e k)
theorem DpZs.nil_iff {vs : List V} {l : List PyData} (h : DpZs K Z H vs l) : vs = [] ↔ l = [] := by
  cases h with
  | nil => simp
  | cons _ _ => simp
theorem rd_catT : Rd2 K (rCatA K) catT := fun Z H v u o p h h' o' Q za r1 r2 e k => by
  obtain ⟨l, el, e⟩ := bind_some e
  obtain ⟨m, em, e⟩ := bind_some e
  obtain ⟨c, rfl⟩ := ite_ob e
  obtain ⟨d1, e1⟩ := asD_rep r1 (show asD o = some (.tuple l) by
    cases o with
    | fr d => cases d <;> first | (cases el; rfl) | cases el
    | _ => cases el)
  obtain ⟨d2, e2⟩ := asD_rep r2 (show asD p = some (.tuple m) by
    cases p with
    | fr d => cases d <;> first | (cases em; rfl) | cases em
    | _ => cases em)
  obtain ⟨a, vs, rfl, s1, t1⟩ := asTup_rep r1 el
  obtain ⟨b, ws, rfl, s2, t2⟩ := asTup_rep r2 em
  refine ⟨a, b, vs, ws, rfl, rfl, s1, s2, ?_, fun h => ?_, fun h h2 => ?_, fun _ _ => k.tup (t1.append t2)⟩
  · have := short_ok c
    rw [t1.length, t2.length]
    rw [List.length_append] at this
    exact this
  · have h := t1.nil_iff.mp h
    subst h
    exact k.flat d2
  · have h := t2.nil_iff.mp h2
    subst h
    rw [List.append_nil] at k
    exact k.flat d1
theorem rd_catL : Rd2 K rCat catL := fun Z H v u o p h h' o' Q za r1 r2 e k => by
  obtain ⟨l, el, e⟩ := bind_some e
  obtain ⟨m, em, e⟩ := bind_some e
  obtain ⟨c, rfl⟩ := ite_ob e
  obtain ⟨a, vs, rfl, s1, t1⟩ := asLst_rep r1 el
  obtain ⟨b, ws, rfl, s2, t2⟩ := asLst_rep r2 em
  refine ⟨a, b, vs, ws, rfl, rfl, s1, s2, ?_, k.lst (t1.append t2) za⟩
  have := short_ok c
  rw [t1.length, t2.length]
  rw [List.length_append] at this
  exact this
theorem DpZs.reps {vs : List V} {l : List PyData} (h : DpZs K Z H vs l) : ∀ n : Nat, DpZs K Z H (List.replicate n vs).flatten (List.replicate n l).flatten
  | 0 => .nil
  | n + 1 => by
    rw [List.replicate_succ, List.replicate_succ, List.flatten_cons, List.flatten_cons]
    exact h.append (DpZs.reps h n)
theorem rd_repL : Rd2 K rRep repL := fun Z H v u o p h h' o' Q za r1 r2 e k => by
  obtain ⟨l, el, e⟩ := bind_some e
  obtain ⟨j, ej, e⟩ := bind_some e
  obtain ⟨c, rfl⟩ := ite_ob e
  obtain ⟨c1, c⟩ := Bool.and_eq_true_iff.mp c
  obtain ⟨c2, c3⟩ := Bool.and_eq_true_iff.mp c
  obtain ⟨a, vs, rfl, s1, t1⟩ := asLst_rep r1 el
  refine ⟨a, j, vs, rfl, asI_rep r2 ej, s1, of_decide_eq_true c1, of_decide_eq_true c2, ?_, k.lst (t1.reps _) za⟩
  rw [t1.length, sizeLine_eq]
  exact Nat.le_of_ble_eq_true c3
end
section
variable {X : Cx}
abbrev rAddO (K : PySem.W.Frag) : R2 := fun x y H Q => rI0 (fun i j => .int (i + j)) x y H Q ∨ (rCatA K x y H Q ∨ rCat x y H Q)
theorem op_addO : OpR X (binaryOp .Add) (rAddO X.K) := op_add.or (op_catA.or op_cat)
theorem rd_addO : Rd2 X.K (rAddO X.K) addO := rd_add.or (rd_catT.or rd_catL)
abbrev rMulO : R2 := fun x y H Q => rI CMul (fun i j => .int (i * j)) x y H Q ∨ rRep x y H Q
theorem op_mulO : OpR X (binaryOp .Mult) rMulO := op_mul.or op_rep
theorem rd_mulO : Rd2 X.K rMulO mulO := rd_mul.or rd_repL
end

/-! ## comparing -/
def fB (b : Bool) : Ob := .fr (.bool b)
def eqO (x y : Ob) : Option Ob := (asData x).bind fun d => (asData y).bind fun e => if shal 9 d || shal 9 e then some (fB (PyData.eqv d e)) else none
def neO (x y : Ob) : Option Ob := (asData x).bind fun d => (asData y).bind fun e => if shal 9 d || shal 9 e then some (fB (!PyData.eqv d e)) else none
def notNone : PyData → Bool
  | .none => false
  | _ => true
/-- data that can be compared -/
def cmpOk (d e : PyData) : Bool := PySem.W.alike d e && (shal 9 d && notNone d)
def ltO (x y : Ob) : Option Ob := (asData x).bind fun d => (asData y).bind fun e => if cmpOk d e then some (fB (PySem.W.dataLt d e)) else none
def gtO (x y : Ob) : Option Ob := (asData x).bind fun d => (asData y).bind fun e => if cmpOk d e then some (fB (PySem.W.dataLt e d)) else none
def leO (x y : Ob) : Option Ob := (asData x).bind fun d => (asData y).bind fun e => if cmpOk d e then some (fB (!PySem.W.dataLt e d)) else none
def geO (x y : Ob) : Option Ob := (asData x).bind fun d => (asData y).bind fun e => if cmpOk d e then some (fB (!PySem.W.dataLt d e)) else none
def ltI (x y : Ob) : Option Ob := (asI x).bind fun i => (asI y).bind fun j => some (fB (decide (i < j)))
def gtI (x y : Ob) : Option Ob := (asI x).bind fun i => (asI y).bind fun j => some (fB (decide (j < i)))
def leI (x y : Ob) : Option Ob := (asI x).bind fun i => (asI y).bind fun j => some (fB (decide (i ≤ j)))
def geI (x y : Ob) : Option Ob := (asI x).bind fun i => (asI y).bind fun j => some (fB (decide (j ≤ i)))
def ltA (x y : Ob) : Option Ob := match ltI x y with
  | some o => some o
  | none => ltO x y
def gtA (x y : Ob) : Option Ob := match gtI x y with
  | some o => some o
  | none => gtO x y
def leA (x y : Ob) : Option Ob := match leI x y with
  | some o => some o
  | none => leO x y
def geA (x y : Ob) : Option Ob := match geI x y with
  | some o => some o
  | none => geO x y
abbrev rC2 (f : Value → Value → Sem Value) (X : Cx) (g : PyData → PyData → Option Bool) : R2 := fun x y H Q => ∃ d e b, Dp X.K H x d ∧ Dp X.K H y e ∧ g d e = some b ∧ Q (.bl b) H
section
variable {X : Cx} {K : PySem.W.Frag} {Z : Zs} {H : Hp}
def eqG (d e : PyData) : Option Bool := if shal 9 d || shal 9 e then some (PyData.eqv d e) else none
def neG (d e : PyData) : Option Bool := if shal 9 d || shal 9 e then some (!PyData.eqv d e) else none
theorem min_of {d e : PyData} (h : (shal 9 d || shal 9 e) = true) : min d.depth e.depth ≤ 9 := by
  rcases Bool.or_eq_true_iff.mp h with h | h
  · exact Nat.le_trans (Nat.min_le_left _ _) (shal_depth d 9 h)
  · exact Nat.le_trans (Nat.min_le_right _ _) (shal_depth e 9 h)
theorem op_eqG (hu : X.A.units + 64 < cLine) : OpR X (compareOp .Eq) (rC2 (compareOp .Eq) X eqG) := by
  intro pins s σ H x y v u Q I rx ry h
  obtain ⟨d, e, b, hd, he, hg, q⟩ := h
  obtain ⟨as, r1⟩ := Dp.reads I d x v hd rx
  obtain ⟨bs, r2⟩ := Dp.reads I e y u he ry
  have c : (shal 9 d || shal 9 e) = true := by
    unfold eqG at hg
    split at hg
    · assumption
    · cases hg
  have eb : b = PyData.eqv d e := by
    unfold eqG at hg
    rw [if_pos c] at hg
    exact (Option.some.inj hg).symm
  have hm := min_of c
  subst eb
  exact PySem.SeqAt.eq_plain r1 r2 (Dp.plain hd) (Dp.plain he) (by omega) ⟨.bl _, H, I, rfl, q⟩
theorem op_neG (hu : X.A.units + 64 < cLine) : OpR X (compareOp .NotEq) (rC2 (compareOp .NotEq) X neG) := by
  intro pins s σ H x y v u Q I rx ry h
  obtain ⟨d, e, b, hd, he, hg, q⟩ := h
  obtain ⟨as, r1⟩ := Dp.reads I d x v hd rx
  obtain ⟨bs, r2⟩ := Dp.reads I e y u he ry
  have c : (shal 9 d || shal 9 e) = true := by
    unfold neG at hg
    split at hg
    · assumption
    · cases hg
  have eb : b = !PyData.eqv d e := by
    unfold neG at hg
    rw [if_pos c] at hg
    exact (Option.some.inj hg).symm
  have hm := min_of c
  subst eb
  exact PySem.SeqAt.ne_plain r1 r2 (Dp.plain hd) (Dp.plain he) (by omega) ⟨.bl _, H, I, rfl, q⟩
theorem rd_c2 {f : Value → Value → Sem Value} {g : PyData → PyData → Option Bool} {k : Ob → Ob → Option Ob} (hk : ∀ x y o, k x y = some o → ∃ d e b, asData x = some d ∧ asData y = some e ∧ g d e = some b ∧ o = fB b) : Rd2 X.K (rC2 f X g) k := fun Z H v u o p h h' o' Q za r1 r2 e kk => by
  obtain ⟨d, e', b, ed, ee, eg, rfl⟩ := hk o p o' e
  exact ⟨d, e', b, asData_rep r1 ed, asData_rep r2 ee, eg, kk.flat (.bl _)⟩
theorem rd_eq : Rd2 X.K (rC2 (compareOp .Eq) X eqG) eqO := rd_c2 fun x y o h => by
  obtain ⟨d, ed, h⟩ := bind_some h
  obtain ⟨e, ee, h⟩ := bind_some h
  obtain ⟨c, rfl⟩ := ite_ob h
  exact ⟨d, e, _, ed, ee, by unfold eqG; rw [if_pos c], rfl⟩
theorem rd_ne : Rd2 X.K (rC2 (compareOp .NotEq) X neG) neO := rd_c2 fun x y o h => by
  obtain ⟨d, ed, h⟩ := bind_some h
  obtain ⟨e, ee, h⟩ := bind_some h
  obtain ⟨c, rfl⟩ := ite_ob h
  exact ⟨d, e, _, ed, ee, by unfold neG; rw [if_pos c], rfl⟩
theorem cmp_facts {d e : PyData} (h : cmpOk d e = true) : PySem.W.alike d e = true ∧ d ≠ .none ∧ min d.depth e.depth ≤ 9 := by
  obtain ⟨a, b⟩ := Bool.and_eq_true_iff.mp h
  obtain ⟨b, c⟩ := Bool.and_eq_true_iff.mp b
  exact ⟨a, (fun q => by rw [q] at c; cases c), Nat.le_trans (Nat.min_le_left _ _) (shal_depth d 9 b)⟩
abbrev cG (f : PyData → PyData → Bool) (d e : PyData) : Option Bool := if cmpOk d e then some (f d e) else none
theorem cG_some {f : PyData → PyData → Bool} {d e : PyData} {b : Bool} (h : cG f d e = some b) : cmpOk d e = true ∧ b = f d e := by
  unfold cG at h
  split at h
  · exact ⟨by assumption, (Option.some.inj h).symm⟩
  · cases h
theorem rd_cG {f : Value → Value → Sem Value} {F : PyData → PyData → Bool} {k : Ob → Ob → Option Ob} (hk : k = fun x y => (asData x).bind fun d => (asData y).bind fun e => if cmpOk d e then some (fB (F d e)) else none) : Rd2 X.K (rC2 f X (cG F)) k := rd_c2 fun x y o h => by
  subst hk
  obtain ⟨d, ed, h⟩ := bind_some h
  obtain ⟨e, ee, h⟩ := bind_some h
  obtain ⟨c, rfl⟩ := ite_ob h
  exact ⟨d, e, _, ed, ee, by unfold cG; rw [if_pos c], rfl⟩
theorem op_ltG (hu : X.A.units + 64 < cLine) : OpR X (compareOp .Lt) (rC2 (compareOp .Lt) X (cG fun d e => PySem.W.dataLt d e)) := by
  intro pins s σ H x y v u Q I rx ry h
  obtain ⟨d, e, b, hd, he, hg, q⟩ := h
  obtain ⟨as, r1⟩ := Dp.reads I d x v hd rx
  obtain ⟨bs, r2⟩ := Dp.reads I e y u he ry
  obtain ⟨c, rfl⟩ := cG_some hg
  obtain ⟨c1, c2, c3⟩ := cmp_facts c
  exact PySem.W.lt_data r1 r2 c1 c2 (by omega) ⟨.bl _, H, I, rfl, q⟩
theorem op_gtG (hu : X.A.units + 64 < cLine) : OpR X (compareOp .Gt) (rC2 (compareOp .Gt) X (cG fun d e => PySem.W.dataLt e d)) := by
  intro pins s σ H x y v u Q I rx ry h
  obtain ⟨d, e, b, hd, he, hg, q⟩ := h
  obtain ⟨as, r1⟩ := Dp.reads I d x v hd rx
  obtain ⟨bs, r2⟩ := Dp.reads I e y u he ry
  obtain ⟨c, rfl⟩ := cG_some hg
  obtain ⟨c1, c2, c3⟩ := cmp_facts c
  exact PySem.W.gt_data r1 r2 c1 c2 (by omega) ⟨.bl _, H, I, rfl, q⟩
theorem op_leG (hu : X.A.units + 64 < cLine) : OpR X (compareOp .LtE) (rC2 (compareOp .LtE) X (cG fun d e => !PySem.W.dataLt e d)) := by
  intro pins s σ H x y v u Q I rx ry h
  obtain ⟨d, e, b, hd, he, hg, q⟩ := h
  obtain ⟨as, r1⟩ := Dp.reads I d x v hd rx
  obtain ⟨bs, r2⟩ := Dp.reads I e y u he ry
  obtain ⟨c, rfl⟩ := cG_some hg
  obtain ⟨c1, c2, c3⟩ := cmp_facts c
  exact PySem.W.le_data r1 r2 c1 c2 (by omega) ⟨.bl _, H, I, rfl, q⟩
theorem op_geG (hu : X.A.units + 64 < cLine) : OpR X (compareOp .GtE) (rC2 (compareOp .GtE) X (cG fun d e => !PySem.W.dataLt d e)) := by
  intro pins s σ H x y v u Q I rx ry h
  obtain ⟨d, e, b, hd, he, hg, q⟩ := h
  obtain ⟨as, r1⟩ := Dp.reads I d x v hd rx
  obtain ⟨bs, r2⟩ := Dp.reads I e y u he ry
  obtain ⟨c, rfl⟩ := cG_some hg
  obtain ⟨c1, c2, c3⟩ := cmp_facts c
  exact PySem.W.ge_data r1 r2 c1 c2 (by omega) ⟨.bl _, H, I, rfl, q⟩
theorem rd_iB {F : Int → Int → Bool} {k : Ob → Ob → Option Ob} (hk : k = fun x y => (asI x).bind fun i => (asI y).bind fun j => some (fB (F i j))) : Rd2 K (rI0 fun i j => .bl (F i j)) k := fun Z H v u o p h h' o' Q za r1 r2 e kk => by
  subst hk
  obtain ⟨i, ei, e⟩ := bind_some e
  obtain ⟨j, ej, e⟩ := bind_some e
  cases e
  exact ⟨i, j, asI_rep r1 ei, asI_rep r2 ej, kk.flat (.bl _)⟩
abbrev rLtA (X : Cx) : R2 := fun x y H Q => rI0 (fun i j => .bl (decide (i < j))) x y H Q ∨ rC2 (compareOp .Lt) X (cG fun d e => PySem.W.dataLt d e) x y H Q
abbrev rGtA (X : Cx) : R2 := fun x y H Q => rI0 (fun i j => .bl (decide (j < i))) x y H Q ∨ rC2 (compareOp .Gt) X (cG fun d e => PySem.W.dataLt e d) x y H Q
abbrev rLeA (X : Cx) : R2 := fun x y H Q => rI0 (fun i j => .bl (decide (i ≤ j))) x y H Q ∨ rC2 (compareOp .LtE) X (cG fun d e => !PySem.W.dataLt e d) x y H Q
abbrev rGeA (X : Cx) : R2 := fun x y H Q => rI0 (fun i j => .bl (decide (j ≤ i))) x y H Q ∨ rC2 (compareOp .GtE) X (cG fun d e => !PySem.W.dataLt d e) x y H Q
theorem op_ltA (hu : X.A.units + 64 < cLine) : OpR X (compareOp .Lt) (rLtA X) := op_lt.or (op_ltG hu)
theorem op_gtA (hu : X.A.units + 64 < cLine) : OpR X (compareOp .Gt) (rGtA X) := op_gt.or (op_gtG hu)
theorem op_leA (hu : X.A.units + 64 < cLine) : OpR X (compareOp .LtE) (rLeA X) := op_le.or (op_leG hu)
theorem op_geA (hu : X.A.units + 64 < cLine) : OpR X (compareOp .GtE) (rGeA X) := op_ge.or (op_geG hu)
theorem rd_ltA : Rd2 X.K (rLtA X) ltA := (rd_iB rfl).or (rd_cG rfl)
theorem rd_gtA : Rd2 X.K (rGtA X) gtA := (rd_iB rfl).or (rd_cG rfl)
theorem rd_leA : Rd2 X.K (rLeA X) leA := (rd_iB rfl).or (rd_cG rfl)
theorem rd_geA : Rd2 X.K (rGeA X) geA := (rd_iB rfl).or (rd_cG rfl)

/-! ## in, is -/
def inO (x y : Ob) : Option Ob := (asData x).bind fun d => (asSeq y).bind fun l => if shal 9 d then some (fB (l.any fun z => PyData.eqv z d)) else none
def niO (x y : Ob) : Option Ob := (asData x).bind fun d => (asSeq y).bind fun l => if shal 9 d then some (fB (!l.any fun z => PyData.eqv z d)) else none
abbrev rInA (X : Cx) (n : Bool) : R2 := fun x y H Q => ∃ d l, Dp X.K H x d ∧ (Dp X.K H y (.list l) ∨ Dp X.K H y (.tuple l)) ∧ shal 9 d = true ∧ Q (.bl (if n then !l.any fun z => PyData.eqv z d else l.any fun z => PyData.eqv z d)) H
theorem op_inA (hu : X.A.units + 64 < cLine) : OpR X (compareOp .In) (rInA X false) := by
  intro pins s σ H x y v u Q I rx ry h
  obtain ⟨d, l, hd, hl, c, q⟩ := h
  obtain ⟨as, r1⟩ := Dp.reads I d x v hd rx
  have hm : min (PyData.depthAll l) d.depth ≤ 9 := Nat.le_trans (Nat.min_le_right _ _) (shal_depth d 9 c)
  rcases hl with hl | hl
  · obtain ⟨bs, r2⟩ := Dp.reads I _ y u hl ry
    exact PySem.SeqAt.in_list_data r2 r1 (by simpa [PyData.plain] using Dp.plain hl) (Dp.plain hd) (by omega) ⟨.bl _, H, I, rfl, q⟩
  · obtain ⟨bs, r2⟩ := Dp.reads I _ y u hl ry
    exact PySem.SeqAt.in_tuple_data r2 r1 (by simpa [PyData.plain] using Dp.plain hl) (Dp.plain hd) (by omega) ⟨.bl _, H, I, rfl, q⟩
theorem op_niA (hu : X.A.units + 64 < cLine) : OpR X (compareOp .NotIn) (rInA X true) := by
  intro pins s σ H x y v u Q I rx ry h
  obtain ⟨d, l, hd, hl, c, q⟩ := h
  obtain ⟨as, r1⟩ := Dp.reads I d x v hd rx
  have hm : min (PyData.depthAll l) d.depth ≤ 9 := Nat.le_trans (Nat.min_le_right _ _) (shal_depth d 9 c)
  rcases hl with hl | hl
  · obtain ⟨bs, r2⟩ := Dp.reads I _ y u hl ry
    exact PySem.SeqAt.notIn_list_data r2 r1 (by simpa [PyData.plain] using Dp.plain hl) (Dp.plain hd) (by omega) ⟨.bl _, H, I, rfl, q⟩
  · obtain ⟨bs, r2⟩ := Dp.reads I _ y u hl ry
    exact PySem.SeqAt.notIn_tuple_data r2 r1 (by simpa [PyData.plain] using Dp.plain hl) (Dp.plain hd) (by omega) ⟨.bl _, H, I, rfl, q⟩
theorem asSeq_dp {v : V} {o : Ob} {g : List Addr} {l : List PyData} (r : RepO K Z H v o g) (e : asSeq o = some l) : Dp K H v (.list l) ∨ Dp K H v (.tuple l) := by
  obtain ⟨a, vs, rfl, s, t⟩ := asSeq_rep r e
  rcases s with s | s
  · exact .inl (.lst s t.dp)
  · exact .inr (.tup s t.dp)
theorem rd_in : Rd2 X.K (rInA X false) inO := fun Z H v u o p h h' o' Q za r1 r2 e k => by
  obtain ⟨d, ed, e⟩ := bind_some e
  obtain ⟨l, el, e⟩ := bind_some e
  obtain ⟨c, rfl⟩ := ite_ob e
  exact ⟨d, l, asData_rep r1 ed, asSeq_dp r2 el, c, k.flat (.bl _)⟩
theorem rd_ni : Rd2 X.K (rInA X true) niO := fun Z H v u o p h h' o' Q za r1 r2 e k => by
  obtain ⟨d, ed, e⟩ := bind_some e
  obtain ⟨l, el, e⟩ := bind_some e
  obtain ⟨c, rfl⟩ := ite_ob e
  exact ⟨d, l, asData_rep r1 ed, asSeq_dp r2 el, c, k.flat (.bl _)⟩
/-- x is None, True, False (no other constants) -/
def isNone : PyData → Bool
  | .none => true
  | _ => false
def isO (x y : Ob) : Option Ob := match y, asD x with
  | .fr .none, some d => some (fB (isNone d))
  | .fr (.bool b), some (.bool c) => some (fB (c == b))
  | _, _ => none
def isnO (x y : Ob) : Option Ob := match y, asD x with
  | .fr .none, some d => some (fB (!isNone d))
  | .fr (.bool b), some (.bool c) => some (fB (!(c == b)))
  | _, _ => none
end
end DL

namespace DL
open PySem PySem.Spec PyProof.Rows L2

/-! ## the order of data: whole numbers, texts, tuples of these -/
mutual
def cmpX : PyData → PyData → Ordering
  | .int i, .int j => if i < j then .lt else if i = j then .eq else .gt
  | .str x, .str y => if x.cps.toList < y.cps.toList then .lt else if x = y then .eq else .gt
  | .tuple l, .tuple m => cmpXs l m
  | _, _ => .eq
def cmpXs : List PyData → List PyData → Ordering
  | [], [] => .eq
  | [], _ :: _ => .lt
  | _ :: _, [] => .gt
  | x :: xs, y :: ys => match cmpX x y with
    | .lt => .lt
    | .gt => .gt
    | .eq => cmpXs xs ys
end
mutual
def plainK : PyData → Bool
  | .int _ => true
  | .str _ => true
  | .tuple l => plainKs l
  | _ => false
def plainKs : List PyData → Bool
  | [] => true
  | d :: ds => plainK d && plainKs ds
end
def hasN : Nat → PyData → Bool
  | 0, .int _ => true
  | n + 1, .tuple l => l.all (hasN n)
  | _, _ => false
theorem plainKs_all : ∀ l : List PyData, plainKs l = l.all plainK
  | [] => rfl
  | d :: ds => by rw [plainKs, List.all_cons, plainKs_all ds]
theorem hasN_plain : ∀ (n : Nat) (d : PyData), hasN n d = true → plainK d = true
  | 0, .int _, _ => rfl
  | n + 1, .tuple l, h => by
    have h : l.all (hasN n) = true := h
    rw [plainK, plainKs_all]
    exact List.all_eq_true.mpr fun x m => hasN_plain n x (List.all_eq_true.mp h x m)
  | 0, .none, h => by cases h
  | 0, .bool _, h => by cases h
  | 0, .str _, h => by cases h
  | 0, .list _, h => by cases h
  | 0, .tuple _, h => by cases h
  | 0, .dict _, h => by cases h
  | _ + 1, .none, h => by cases h
  | _ + 1, .bool _, h => by cases h
  | _ + 1, .int _, h => by cases h
  | _ + 1, .str _, h => by cases h
  | _ + 1, .list _, h => by cases h
  | _ + 1, .dict _, h => by cases h
theorem hasN_alike : ∀ (n : Nat) (d e : PyData), hasN n d = true → hasN n e = true → PySem.W.alike d e = true
  | 0, d, e, h, h' => by
    cases d <;> first | (cases h; done) | skip
    cases e <;> first | (cases h'; done) | skip
    simp [PySem.W.alike]
  | n + 1, d, e, h, h' => by
    cases d <;> first | (cases h; done) | skip
    cases e <;> first | (cases h'; done) | skip
    rename_i l m
    have h : l.all (hasN n) = true := h
    have h' : m.all (hasN n) = true := h'
    rw [PySem.W.alike]
    have key : ∀ l m : List PyData, l.all (hasN n) = true → m.all (hasN n) = true → PySem.W.alikeAll l m = true := by
      intro l
      induction l with
      | nil => intro m _ _; simp [PySem.W.alikeAll]
      | cons x xs ih =>
        intro m h h'
        cases m with
        | nil => simp [PySem.W.alikeAll]
        | cons y ys =>
          rw [List.all_cons, Bool.and_eq_true] at h h'
          rw [PySem.W.alikeAll, hasN_alike n x y h.1 h'.1, Bool.true_and]
          exact ih ys h.2 h'.2
    exact key l m h h'
theorem hasN_depth : ∀ (n : Nat) (d : PyData), hasN n d = true → d.depth ≤ n
  | 0, d, h => by
    cases d <;> first | (cases h; done) | simp [PyData.depth]
  | n + 1, d, h => by
    cases d <;> first | (cases h; done) | skip
    rename_i l
    have h : l.all (hasN n) = true := h
    rw [PyData.depth]
    have key : ∀ l : List PyData, l.all (hasN n) = true → PyData.depthAll l ≤ n := by
      intro l
      induction l with
      | nil => intro _; simp [PyData.depthAll]
      | cons x xs ih =>
        intro h
        rw [List.all_cons, Bool.and_eq_true] at h
        have h1 := hasN_depth n x h.1
        have h2 := ih h.2
        simp only [PyData.depthAll]; omega
    have := key l h
    omega
theorem str_lt_irrefl (x : List Nat) : ¬ x < x := List.lt_irrefl x
structure CmpOk (x y : PyData) (c : Ordering) : Prop where
  lt : PySem.W.dataLt x y = (c == .lt)
  gt : PySem.W.dataLt y x = (c == .gt)
  eqv : PyData.eqv x y = (c == .eq)
  eq : c = .eq → x = y
mutual
theorem cmp_ok : ∀ (x y : PyData), plainK x = true → plainK y = true → PySem.W.alike x y = true → CmpOk x y (cmpX x y)
  | .int i, .int j, _, _, h => by
    unfold cmpX
    by_cases h1 : i < j
    · rw [if_pos h1]
      exact ⟨by rw [PySem.W.dataLt_int, decide_eq_true h1]; rfl, by rw [PySem.W.dataLt_int, decide_eq_false (by omega)]; rfl, by simp only [PyData.eqv]; rw [beq_eq_false_iff_ne.mpr (by omega)]; rfl, fun e => nomatch e⟩
    · rw [if_neg h1]
      by_cases h2 : i = j
      · rw [if_pos h2]
        exact ⟨by rw [PySem.W.dataLt_int, decide_eq_false h1]; rfl, by rw [PySem.W.dataLt_int, decide_eq_false (by omega)]; rfl, by simp only [PyData.eqv]; rw [h2]; simp, fun _ => by rw [h2]⟩
      · rw [if_neg h2]
        exact ⟨by rw [PySem.W.dataLt_int, decide_eq_false h1]; rfl, by rw [PySem.W.dataLt_int, decide_eq_true (by omega)]; rfl, by simp only [PyData.eqv]; rw [beq_eq_false_iff_ne.mpr h2]; rfl, fun e => nomatch e⟩
  | .str a, .str b, _, _, h => by
    unfold cmpX
    by_cases h1 : a.cps.toList < b.cps.toList
    · rw [if_pos h1]
      have hn : ¬ b.cps.toList < a.cps.toList := fun q => List.lt_irrefl _ (List.lt_trans h1 q)
      have he : a ≠ b := fun q => by subst q; exact List.lt_irrefl _ h1
      exact ⟨by rw [PySem.W.dataLt_str, decide_eq_true h1]; rfl, by rw [PySem.W.dataLt_str, decide_eq_false hn]; rfl, by simp only [PyData.eqv]; rw [beq_eq_false_iff_ne.mpr he]; rfl, fun e => nomatch e⟩
    · rw [if_neg h1]
      by_cases h2 : a = b
      · rw [if_pos h2]
        subst h2
        exact ⟨by rw [PySem.W.dataLt_str, decide_eq_false h1]; rfl, by rw [PySem.W.dataLt_str, decide_eq_false h1]; rfl, by simp only [PyData.eqv]; simp, fun _ => rfl⟩
      · rw [if_neg h2]
        have h3 : b.cps.toList < a.cps.toList := by
          rcases Decidable.em (b.cps.toList < a.cps.toList) with h | h
          · exact h
          · have h' : a.cps.toList ≤ b.cps.toList := h
            have h'' : b.cps.toList ≤ a.cps.toList := h1
            exact absurd (PySem.W.str_of_cps (List.le_antisymm h' h'')) h2
        exact ⟨by rw [PySem.W.dataLt_str, decide_eq_false h1]; rfl, by rw [PySem.W.dataLt_str, decide_eq_true h3]; rfl, by simp only [PyData.eqv]; rw [beq_eq_false_iff_ne.mpr h2]; rfl, fun e => nomatch e⟩
  | .tuple l, .tuple m, hx, hy, h => by
    have q := cmps_ok l m (by simpa [plainK] using hx) (by simpa [plainK] using hy) (by simpa [PySem.W.alike] using h)
    unfold cmpX
    exact q
  | .int _, .none, _, _, h => by simp [PySem.W.alike] at h
  | .int _, .bool _, _, _, h => by simp [PySem.W.alike] at h
  | .int _, .str _, _, _, h => by simp [PySem.W.alike] at h
  | .int _, .list _, _, _, h => by simp [PySem.W.alike] at h
  | .int _, .tuple _, _, _, h => by simp [PySem.W.alike] at h
  | .int _, .dict _, _, _, h => by simp [PySem.W.alike] at h
  | .str _, .none, _, _, h => by simp [PySem.W.alike] at h
  | .str _, .bool _, _, _, h => by simp [PySem.W.alike] at h
  | .str _, .int _, _, _, h => by simp [PySem.W.alike] at h
  | .str _, .list _, _, _, h => by simp [PySem.W.alike] at h
  | .str _, .tuple _, _, _, h => by simp [PySem.W.alike] at h
  | .str _, .dict _, _, _, h => by simp [PySem.W.alike] at h
  | .tuple _, .none, _, _, h => by simp [PySem.W.alike] at h
  | .tuple _, .bool _, _, _, h => by simp [PySem.W.alike] at h
  | .tuple _, .int _, _, _, h => by simp [PySem.W.alike] at h
  | .tuple _, .str _, _, _, h => by simp [PySem.W.alike] at h
  | .tuple _, .list _, _, _, h => by simp [PySem.W.alike] at h
  | .tuple _, .dict _, _, _, h => by simp [PySem.W.alike] at h
  | .none, _, hx, _, _ => by simp [plainK] at hx
  | .bool _, _, hx, _, _ => by simp [plainK] at hx
  | .list _, _, hx, _, _ => by simp [plainK] at hx
  | .dict _, _, hx, _, _ => by simp [plainK] at hx
theorem cmps_ok : ∀ (l m : List PyData), plainKs l = true → plainKs m = true → PySem.W.alikeAll l m = true → CmpOk (.tuple l) (.tuple m) (cmpXs l m)
  | [], [], _, _, _ => by
    unfold cmpXs
    exact ⟨by decide, by decide, by simp [PyData.eqv, PyData.eqvAll], fun _ => rfl⟩
  | [], y :: ys, _, _, _ => by
    unfold cmpXs
    refine ⟨?_, ?_, by simp [PyData.eqv, PyData.eqvAll], fun e => nomatch e⟩
    · rw [PySem.W.dataLt_tuple, PySem.W.toks_all_cons]; simp [PySem.W.keyToksAll]; exact PySem.W.lex_atom (by decide) _ _
    · rw [PySem.W.dataLt_tuple, PySem.W.toks_all_cons]; simp [PySem.W.keyToksAll]; exact PySem.W.lex_atom (by decide) _ _
  | x :: xs, [], _, _, _ => by
    unfold cmpXs
    refine ⟨?_, ?_, by simp [PyData.eqv, PyData.eqvAll], fun e => nomatch e⟩
    · rw [PySem.W.dataLt_tuple, PySem.W.toks_all_cons]; simp [PySem.W.keyToksAll]; exact PySem.W.lex_atom (by decide) _ _
    · rw [PySem.W.dataLt_tuple, PySem.W.toks_all_cons]; simp [PySem.W.keyToksAll]; exact PySem.W.lex_atom (by decide) _ _
  | x :: xs, y :: ys, hx, hy, h => by
    have hx : plainK x = true ∧ plainKs xs = true := by simpa [plainKs] using hx
    have hy : plainK y = true ∧ plainKs ys = true := by simpa [plainKs] using hy
    obtain ⟨a1, a2⟩ := PySem.W.alike_all_cons h
    have a1' : PySem.W.alike y x = true := by rw [PySem.W.alike_comm]; exact a1
    have c := cmp_ok x y hx.1 hy.1 a1
    have cs := cmps_ok xs ys hx.2 hy.2 a2
    have ev := PySem.W.eqv_all_cons x y xs ys
    unfold cmpXs
    have sw : PyData.eqv y x = PyData.eqv x y := PySem.W.eqv_comm y x
    cases hc : cmpX x y with
    | lt =>
      rw [hc] at c
      have e : PyData.eqv x y = false := c.eqv
      refine ⟨?_, ?_, ?_, fun e => nomatch e⟩
      · rw [PySem.W.dataLt_tuple, PySem.W.dataLt_all_no a1 e]; exact c.lt
      · rw [PySem.W.dataLt_tuple, PySem.W.dataLt_all_no a1' (by rw [sw]; exact e)]; exact c.gt
      · show PyData.eqv (.tuple (x :: xs)) (.tuple (y :: ys)) = _
        simp only [PyData.eqv]; rw [ev, e]; rfl
    | gt =>
      rw [hc] at c
      have e : PyData.eqv x y = false := c.eqv
      refine ⟨?_, ?_, ?_, fun e => nomatch e⟩
      · rw [PySem.W.dataLt_tuple, PySem.W.dataLt_all_no a1 e]; exact c.lt
      · rw [PySem.W.dataLt_tuple, PySem.W.dataLt_all_no a1' (by rw [sw]; exact e)]; exact c.gt
      · show PyData.eqv (.tuple (x :: xs)) (.tuple (y :: ys)) = _
        simp only [PyData.eqv]; rw [ev, e]; rfl
    | eq =>
      rw [hc] at c
      have e : PyData.eqv x y = true := c.eqv
      refine ⟨?_, ?_, ?_, fun q => ?_⟩
      · rw [PySem.W.dataLt_tuple, PySem.W.dataLt_all_yes a1 e, ← PySem.W.dataLt_tuple]; exact cs.lt
      · rw [PySem.W.dataLt_tuple, PySem.W.dataLt_all_yes a1' (by rw [sw]; exact e), ← PySem.W.dataLt_tuple]; exact cs.gt
      · show PyData.eqv (.tuple (x :: xs)) (.tuple (y :: ys)) = _
        have q := cs.eqv
        simp only [PyData.eqv] at q ⊢
        rw [ev, e, Bool.true_and]; exact q
      · have h1 := c.eq rfl
        have h2 := cs.eq q
        injection h2 with h2
        rw [h1, h2]
end
/-! ## sorting -/
def leX (x y : PyData) : Bool := match cmpX x y with
  | .gt => false
  | _ => true
def ins (x : PyData) : List PyData → List PyData
  | [] => [x]
  | y :: ys => match cmpX x y with
    | .gt => y :: ins x ys
    | _ => x :: y :: ys
def isort : List PyData → List PyData
  | [] => []
  | x :: xs => ins x (isort xs)
def pairOk (l : List PyData) : Bool := l.all plainK && (l.all fun x => l.all fun y => PySem.W.alike x y) && l.all (shal 9)
def neTup : PyData → Bool
  | .tuple (_ :: _) => true
  | _ => false
def noTup : PyData → Bool
  | .tuple _ => false
  | .none => false
  | _ => true
/-- what can be sorted here -/
def okSort (l : List PyData) : Bool := l.all (hasN 0) || (l.all neTup && (l.all (hasN 1) || (l.all (hasN 2) || pairOk l)) || (l.all noTup && pairOk l))
structure SortOk (l : List PyData) : Prop where
  pl : ∀ x ∈ l, plainK x = true
  al : ∀ x ∈ l, ∀ y ∈ l, PySem.W.alike x y = true
  dp : ∀ x ∈ l, x.depth ≤ 9
  so : PySem.W.Sortable l
theorem okSort_ok {l : List PyData} (h : okSort l = true) : SortOk l := by
  have hn : ∀ n, n ≤ 9 → l.all (hasN n) = true → PySem.W.Sortable l → SortOk l := fun n n9 h so => by
    have h := List.all_eq_true.mp h
    exact ⟨fun x m => hasN_plain n x (h x m), fun x m y m' => hasN_alike n x y (h x m) (h y m'), fun x m => Nat.le_trans (hasN_depth n x (h x m)) n9, so⟩
  have hp : pairOk l = true → PySem.W.Sortable l → SortOk l := fun h so => by
    obtain ⟨h, h3⟩ := Bool.and_eq_true_iff.mp h
    obtain ⟨h1, h2⟩ := Bool.and_eq_true_iff.mp h
    exact ⟨List.all_eq_true.mp h1, fun x m => List.all_eq_true.mp (List.all_eq_true.mp h2 x m), fun x m => shal_depth x 9 (List.all_eq_true.mp h3 x m), so⟩
  have s1 : l.all neTup = true → PySem.W.Sortable l := fun h => .inl fun d m => by
    have q := List.all_eq_true.mp h d m
    unfold neTup at q
    split at q
    · exact ⟨_, _, rfl⟩
    · cases q
  have s2 : l.all noTup = true → PySem.W.Sortable l := fun h => .inr fun d m => by
    have q := List.all_eq_true.mp h d m
    constructor
    · intro e; rw [e] at q; cases q
    · intro xs e; rw [e] at q; cases q
  unfold okSort at h
  rcases Bool.or_eq_true_iff.mp h with h | h
  · refine hn 0 (by decide) h (.inr fun d m => ?_)
    have q := List.all_eq_true.mp h d m
    constructor
    · intro e; rw [e] at q; cases q
    · intro xs e; rw [e] at q; cases q
  rcases Bool.or_eq_true_iff.mp h with h | h
  · obtain ⟨ht, h⟩ := Bool.and_eq_true_iff.mp h
    rcases Bool.or_eq_true_iff.mp h with h | h
    · exact hn 1 (by decide) h (s1 ht)
    rcases Bool.or_eq_true_iff.mp h with h | h
    · exact hn 2 (by decide) h (s1 ht)
    · exact hp h (s1 ht)
  · obtain ⟨ht, h⟩ := Bool.and_eq_true_iff.mp h
    exact hp h (s2 ht)
theorem SortOk.le {l : List PyData} (h : SortOk l) {x y : PyData} (hx : x ∈ l) (hy : y ∈ l) : PySem.W.dataLe false (fun d : PyData => d) x y = leX x y := by
  have c := cmp_ok x y (h.pl x hx) (h.pl y hy) (h.al x hx y hy)
  have e : PySem.W.dataLe false (fun d : PyData => d) x y = !PySem.W.dataLt y x := rfl
  rw [e, c.gt]
  unfold leX
  cases cmpX x y <;> rfl
theorem SortOk.anti {l : List PyData} (h : SortOk l) {x y : PyData} (hx : x ∈ l) (hy : y ∈ l) (h1 : leX x y = true) (h2 : leX y x = true) : x = y := by
  have c := cmp_ok x y (h.pl x hx) (h.pl y hy) (h.al x hx y hy)
  have c' := cmp_ok y x (h.pl y hy) (h.pl x hx) (h.al y hy x hx)
  unfold leX at h1 h2
  cases e : cmpX x y with
  | gt => rw [e] at h1; cases h1
  | eq => exact c.eq e
  | lt =>
    rw [e] at c
    have q : PySem.W.dataLt x y = true := c.lt
    rw [c'.gt] at q
    cases e' : cmpX y x with
    | gt => rw [e'] at h2; cases h2
    | lt => rw [e'] at q; cases q
    | eq => rw [e'] at q; cases q
theorem ins_perm (x : PyData) : ∀ l : List PyData, (ins x l).Perm (x :: l)
  | [] => .refl _
  | y :: ys => by
    unfold ins
    split
    · exact ((ins_perm x ys).cons y).trans (.swap x y ys)
    · exact .refl _
theorem isort_perm : ∀ l : List PyData, (isort l).Perm l
  | [] => .refl _
  | x :: xs => (ins_perm x (isort xs)).trans ((isort_perm xs).cons x)
theorem ins_sorted {L : List PyData} (h : SortOk L) {x : PyData} (hx : x ∈ L) : ∀ {l : List PyData}, (∀ y ∈ l, y ∈ L) → l.Pairwise (fun a b => leX a b = true) → (ins x l).Pairwise fun a b => leX a b = true
  | [], _, _ => by unfold ins; simp
  | y :: ys, m, s => by
    have tot := (PySem.W.sortLe_total (PyProof.Rows.listOrd PyProof.Rows.itemOrd) false (fun d : PyData => PySem.W.keyToks d))
    have hy := m y List.mem_cons_self
    rw [List.pairwise_cons] at s
    unfold ins
    split
    · rename_i e
      have c := cmp_ok x y (h.pl x hx) (h.pl y hy) (h.al x hx y hy)
      have yx : leX y x = true := by
        rw [← h.le hy hx]
        show (!PySem.W.dataLt x y) = true
        rw [c.lt, e]; rfl
      refine List.pairwise_cons.mpr ⟨fun z hz => ?_, ins_sorted h hx (fun z hz => m z (List.mem_cons_of_mem _ hz)) s.2⟩
      rcases List.mem_cons.mp ((ins_perm x ys).mem_iff.mp hz) with rfl | hz
      · exact yx
      · exact s.1 z hz
    · rename_i e
      have xy : leX x y = true := by
        unfold leX
        cases q : cmpX x y with
        | gt => exact absurd q e
        | _ => rfl
      refine List.pairwise_cons.mpr ⟨fun z hz => ?_, List.pairwise_cons.mpr s⟩
      rcases List.mem_cons.mp hz with rfl | hz
      · exact xy
      · have yz := s.1 z hz
        have hz' := m z (List.mem_cons_of_mem _ hz)
        rw [← h.le hx hz']
        exact tot.trans x y z (by rw [← h.le hx hy] at xy; exact xy) (by rw [← h.le hy hz'] at yz; exact yz)
theorem isort_sorted {L : List PyData} (h : SortOk L) : ∀ {l : List PyData}, (∀ y ∈ l, y ∈ L) → (isort l).Pairwise fun a b => leX a b = true
  | [], _ => List.Pairwise.nil
  | x :: xs, m => ins_sorted h (m x List.mem_cons_self) (fun y hy => m y (List.mem_cons_of_mem _ ((isort_perm xs).mem_iff.mp hy))) (isort_sorted h fun y hy => m y (List.mem_cons_of_mem _ hy))
theorem sort_eq {l : List PyData} (h : SortOk l) : l.mergeSort (PySem.W.dataLe false fun d : PyData => d) = isort l := by
  have tot := (PySem.W.sortLe_total (PyProof.Rows.listOrd PyProof.Rows.itemOrd) false (fun d : PyData => PySem.W.keyToks d))
  have p1 : (l.mergeSort (PySem.W.dataLe false fun d : PyData => d)).Perm l := List.mergeSort_perm _ _
  have s1 := List.pairwise_mergeSort (le := PySem.W.dataLe false fun d : PyData => d) (fun a b c => tot.trans a b c) (fun a b => by
    have q := tot.total a b
    rcases q with q | q
    · exact Bool.or_eq_true_iff.mpr (.inl q)
    · exact Bool.or_eq_true_iff.mpr (.inr q)) l
  have s1' : (l.mergeSort (PySem.W.dataLe false fun d : PyData => d)).Pairwise fun a b => leX a b = true := by
    refine List.Pairwise.imp_of_mem (fun {a b} ha hb q => ?_) s1
    rw [← h.le (p1.mem_iff.mp ha) (p1.mem_iff.mp hb)]
    exact q
  have s2 := isort_sorted h (l := l) fun y hy => hy
  have p := p1.trans (isort_perm l).symm
  exact List.Perm.eq_of_pairwise (le := fun a b => leX a b = true) (fun a b ha hb h1 h2 => h.anti (p1.mem_iff.mp ha) ((isort_perm l).mem_iff.mp hb) h1 h2) s1' s2 p
end DL

namespace DL
open PySem PySem.Spec PyProof.Rows L2

/-! ## is -/
section
variable {X : Cx} {K : PySem.W.Frag} {Z : Zs} {H : Hp}
abbrev rIsA : R2 := fun x y H Q => (y = .non ∧ Q (.bl (decide (x = .non))) H) ∨ rIsB x y H Q
abbrev rIsnA : R2 := fun x y H Q => (y = .non ∧ Q (.bl (!decide (x = .non))) H) ∨ rNotB x y H Q
theorem op_isA : OpR X (compareOp .Is) rIsA := op_isN.or op_isBl
theorem op_isnA : OpR X (compareOp .IsNot) rIsnA := op_notN.or op_notBl
theorem DpZ.non_iff {v : V} {d : PyData} (h : DpZ K Z H v d) : decide (v = .non) = isNone d := by
  cases h <;> rfl
theorem rd_is : Rd2 K rIsA isO := fun Z H v u o p h h' o' Q za r1 r2 e k => by
  unfold isO at e
  split at e
  · rename_i d e1
    cases e
    obtain ⟨d1, _⟩ := asD_rep r1 e1
    obtain ⟨d2, _⟩ := asD_rep r2 rfl
    cases d2
    refine .inl ⟨rfl, ?_⟩
    rw [d1.non_iff]
    exact k.flat (.bl _)
  · rename_i b c e1
    cases e
    obtain ⟨d1, _⟩ := asD_rep r1 e1
    obtain ⟨d2, _⟩ := asD_rep r2 rfl
    cases d1
    cases d2
    refine .inr ⟨_, _, rfl, rfl, ?_⟩
    rw [show decide (c = b) = (c == b) by cases b <;> cases c <;> rfl]
    exact k.flat (.bl _)
  · cases e
theorem rd_isn : Rd2 K rIsnA isnO := fun Z H v u o p h h' o' Q za r1 r2 e k => by
  unfold isnO at e
  split at e
  · rename_i d e1
    cases e
    obtain ⟨d1, _⟩ := asD_rep r1 e1
    obtain ⟨d2, _⟩ := asD_rep r2 rfl
    cases d2
    refine .inl ⟨rfl, ?_⟩
    rw [d1.non_iff]
    exact k.flat (.bl _)
  · rename_i b c e1
    cases e
    obtain ⟨d1, _⟩ := asD_rep r1 e1
    obtain ⟨d2, _⟩ := asD_rep r2 rfl
    cases d1
    cases d2
    refine .inr ⟨_, _, rfl, rfl, ?_⟩
    rw [show decide (c = b) = (c == b) by cases b <;> cases c <;> rfl]
    exact k.flat (.bl _)
  · cases e
end

/-! ## items, cuts -/
def ixD (l : List PyData) (i : Int) : Option PyData := match i with
  | .ofNat n => l[n]?
  | .negSucc n => if Nat.blt n l.length then l[l.length - 1 - n]? else none
def ixO (x y : Ob) : Option Ob := (asSeq x).bind fun l => (asI y).bind fun i => (ixD l i).bind fun d => some (.fr d)
section
variable {X : Cx} {K : PySem.W.Frag} {Z : Zs} {H : Hp}
theorem ixD_at {vs : List V} {l : List PyData} (h : DpZs K Z H vs l) {i : Int} {d : PyData} (e : ixD l i = some d) : ∃ v, atI vs i = some v ∧ DpZ K Z H v d := by
  cases i with
  | ofNat n =>
    have e : l[n]? = some d := e
    obtain ⟨v, h1, h2⟩ := h.atD e
    exact ⟨v, atI_nat h1, h2⟩
  | negSucc n =>
    have e : (if Nat.blt n l.length = true then l[l.length - 1 - n]? else none) = some d := e
    split at e
    · rename_i c
      have c' : n < l.length := Nat.le_of_ble_eq_true c
      obtain ⟨v, h1, h2⟩ := h.atD e
      refine ⟨v, ?_, h2⟩
      have hl := h.length
      unfold atI ixN
      rw [if_neg (by omega), if_pos (by rw [hl]; omega)]
      show vs[(Int.negSucc n + (vs.length : Int)).toNat]? = some v
      rw [show (Int.negSucc n + (vs.length : Int)).toNat = l.length - 1 - n by rw [hl]; omega]
      exact h1
    · cases e
theorem rd_ix : Rd2 K (rIx K) ixO := fun Z H v u o p h h' o' Q za r1 r2 e k => by
  obtain ⟨l, el, e⟩ := bind_some e
  obtain ⟨i, ei, e⟩ := bind_some e
  obtain ⟨d, ed, e⟩ := bind_some e
  cases e
  obtain ⟨a, vs, rfl, s, t⟩ := asSeq_rep r1 el
  obtain ⟨w, h1, h2⟩ := ixD_at t ed
  rcases s with s | s
  · exact .inl ⟨a, vs, i, w, rfl, asI_rep r2 ei, s, h1, k.flat h2⟩
  · exact .inr (.inl ⟨a, vs, i, w, rfl, asI_rep r2 ei, s, h1, k.flat h2⟩)
end
/-- a bound of a cut -/
def cutAt (n d : Nat) : Option Int → Nat
  | none => d
  | some (.ofNat k) => min k n
  | some (.negSucc k) => n - (k + 1)
theorem cutAt_eq (n d : Nat) (o : Option Int) : cutAt n d o = HT.sIx n d o := by
  cases o with
  | none => rfl
  | some i =>
    cases i with
    | ofNat k => exact (HT.sIx_nat n d k).symm
    | negSucc k =>
      have h := HT.clip_eq (Int.negSucc k) n d
      rw [if_pos (by omega)] at h
      show n - (k + 1) = _
      omega
def cutD {α : Type} (l : List α) (lo hi : Option Int) : List α := (l.drop (cutAt l.length 0 lo)).take (cutAt l.length l.length hi - cutAt l.length 0 lo)
abbrev FO := Env → Option (Option Int)
def tO (K : PySem.W.Frag) (f : FO) : TO := fun σ H Q => ∃ Z ρ fp o, Stt K Z H σ ρ fp ∧ f ρ = some o ∧ ∀ Z' H', Fr H [] Z H' [] Z' → Q o H'
def oNone : FO := fun _ => some none
def oSome (f : F1) : FO := fun ρ => (f ρ).bind fun x => (asI x).map some
def dSl (g : Ob → Option Int → Option Int → Option Ob) (f : F1) (lo hi : FO) : F1 := fun ρ => (f ρ).bind fun x => (lo ρ).bind fun a => (hi ρ).bind fun b => g x a b
def slO (x : Ob) (lo hi : Option Int) : Option Ob := match x with
  | .fr (.tuple l) => some (.fr (.tuple (cutD l lo hi)))
  | .fr (.list l) => some (.lst (cutD l lo hi))
  | .lst l => some (.lst (cutD l lo hi))
  | _ => none
def revO (x : Ob) : Option Ob := (asLst x).bind fun l => some (.lst l.reverse)
theorem PO.imp {X : Cx} {e : Option Expr} {t t' : TO} (h : PO X e t) (k : ∀ σ H Q, t' σ H Q → t σ H Q) : PO X e t' := ⟨fun pins s σ H Q I q => h.run pins s σ H Q I (k σ H Q q)⟩
section
variable {X : Cx} {K : PySem.W.Frag} {Z : Zs} {H : Hp} {e : Expr} {f : F1} {lo hi : Option Expr} {fl fh : FO} {p2 pos : Pos}
theorem p_none : PO X none (tO X.K oNone) := PO.imp po_none fun σ H Q h => by
  obtain ⟨Z, ρ, fp, o, S, e, k⟩ := h
  cases e
  exact k Z H .refl
theorem p_some (h : PR X e f) : PO X (some e) (tO X.K (oSome f)) := PO.imp (po_some h) fun σ H Q h => by
  obtain ⟨Z, ρ, fp, o, S, e, k⟩ := h
  obtain ⟨x, ex, e⟩ := bind_some e
  obtain ⟨i, ei, rfl⟩ := Option.map_eq_some_iff.mp e
  exact ⟨Z, ρ, fp, x, S, ex, fun Z1 H1 v1 g1 r1 a1 => ⟨i, asI_rep r1 ei, k Z1 H1 a1⟩⟩
theorem cutV_eq (vs : List V) (lo hi : Option Int) : cutV vs lo hi = cutD vs lo hi := by
  unfold cutV cutD
  rw [cutAt_eq, cutAt_eq]
theorem DpZs.cut {vs : List V} {l : List PyData} (h : DpZs K Z H vs l) (lo hi : Option Int) : DpZs K Z H (cutV vs lo hi) (cutD l lo hi) := by
  rw [cutV_eq]
  unfold cutD
  rw [h.length]
  exact (h.drop _).take _
theorem cutD_whole {α : Type} {l : List α} {lo hi : Option Int} (h : HT.sIx l.length 0 lo = 0 ∧ HT.sIx l.length l.length hi = l.length) : cutD l lo hi = l := by
  unfold cutD
  rw [cutAt_eq, cutAt_eq, h.1, h.2]
  simp
theorem d_sl (hp : PR X e f) (hl : PO X lo (tO X.K fl)) (hh : PO X hi (tO X.K fh)) : DP X (.Subscript e (.Slice lo hi none p2) pos) (dSl slO f fl fh) := PE.imp (pe_slice (SlR.or sl_list sl_tupA) hp hl hh) fun σ H Q h => by
  obtain ⟨Z, ρ, fp, o, S, e, k⟩ := h
  obtain ⟨x, ex, e⟩ := bind_some e
  obtain ⟨a, ea, e⟩ := bind_some e
  obtain ⟨b, eb, e⟩ := bind_some e
  refine ⟨Z, ρ, fp, x, S, ex, fun Z1 H1 v1 g1 r1 a1 => ⟨Z1, ρ, fp, a, S.still a1, ea, fun Z2 H2 a2 => ⟨Z2, ρ, fp, b, (S.still a1).still a2, eb, fun Z3 H3 a3 => ?_⟩⟩⟩
  have r3 := (r1.still a2).still a3
  have al := (a1.trans a2).trans a3
  have k' : Rst X.K Z3 H3 o Q := fun Z4 H4 v4 g4 r4 o4 a4 => k Z4 H4 v4 g4 r4 o4 (al.trans a4)
  unfold slO at e
  split at e
  · cases e
    obtain ⟨d1, _⟩ := asD_rep r3 rfl
    obtain ⟨t, vs, rfl, s, q⟩ := asTup_rep r3 rfl
    refine .inr ⟨t, vs, rfl, s, fun hw => ?_, fun _ => k'.tup (q.cut _ _)⟩
    rw [q.length] at hw
    rw [cutD_whole hw] at k'
    exact k'.flat d1
  · cases e
    obtain ⟨t, vs, rfl, s, q⟩ := asLst_rep r3 rfl
    exact .inl ⟨t, vs, rfl, .of s, k'.lst (q.cut _ _) (al.zal S.za)⟩
  · cases e
    obtain ⟨t, vs, rfl, s, q⟩ := asLst_rep r3 rfl
    exact .inl ⟨t, vs, rfl, .of s, k'.lst (q.cut _ _) (al.zal S.za)⟩
  · cases e
theorem d_rev {k : Nat} {p1 p2 p3 : Pos} (hp : PR X e f) : DP X (.Subscript e (.Slice none none (some (.UnaryOp .USub (.Constant (.int 1) k p1) p2)) p3) pos) (o1 revO f) := PE.imp (pe_revL hp) fun σ H Q h => by
  obtain ⟨Z, ρ, fp, o, S, e, k⟩ := h
  obtain ⟨x, ex, e⟩ := bind_some e
  obtain ⟨l, el, e⟩ := bind_some e
  cases e
  refine ⟨Z, ρ, fp, x, S, ex, fun Z1 H1 v1 g1 r1 a1 => ?_⟩
  obtain ⟨t, vs, rfl, s, q⟩ := asLst_rep r1 el
  exact ⟨t, vs, rfl, .of s, Rst.lst (fun Z4 H4 v4 g4 r4 o4 a4 => k Z4 H4 v4 g4 r4 o4 (a1.trans a4)) q.rev (a1.zal S.za)⟩
end

/-! ## built-in functions -/
def g1 (g : Ob → Option Ob) (os : List Ob) : Option Ob := match os with
  | [x] => g x
  | _ => none
def g2 (g : Ob → Ob → Option Ob) (os : List Ob) : Option Ob := match os with
  | [x, y] => g x y
  | _ => none
def lenO (x : Ob) : Option Ob := match x with
  | .ll l => some (.fr (.int l.length))
  | _ => (asSeq x).map fun l => .fr (.int l.length)
def listO (x : Ob) : Option Ob := (asSeq x).map .lst
def tupO (x : Ob) : Option Ob := (asSeq x).map fun l => .fr (.tuple l)
def absO (x : Ob) : Option Ob := (asI x).map fun i => .fr (.int (if i < 0 then -i else i))
def intO (x : Ob) : Option Ob := match x with
  | .fr (.int i) => some (.fr (.int i))
  | .fr (.bool b) => some (.fr (.int (if b then 1 else 0)))
  | _ => none
def max2O (x y : Ob) : Option Ob := (asI x).bind fun i => (asI y).bind fun j => some (.fr (.int (if j > i then j else i)))
def min2O (x y : Ob) : Option Ob := (asI x).bind fun i => (asI y).bind fun j => some (.fr (.int (if j < i then j else i)))
def dInt : PyData → Option Int
  | .int i => some i
  | _ => none
def dBool : PyData → Option Bool
  | .bool i => some i
  | _ => none
def intsOf : List PyData → Option (List Int)
  | [] => some []
  | d :: ds => (dInt d).bind fun i => (intsOf ds).bind fun l => some (i :: l)
def boolsOf : List PyData → Option (List Bool)
  | [] => some []
  | d :: ds => (dBool d).bind fun i => (boolsOf ds).bind fun l => some (i :: l)
def sumL : List Int → Int
  | [] => 0
  | i :: l => i + sumL l
def maxL : Int → List Int → Int
  | m, [] => m
  | m, i :: l => maxL (if m < i then i else m) l
def minL : Int → List Int → Int
  | m, [] => m
  | m, i :: l => minL (if i < m then i else m) l
def sumO (x : Ob) : Option Ob := (asLst x).bind fun l => (intsOf l).bind fun ns => some (.fr (.int (sumL ns)))
def maxO (x : Ob) : Option Ob := (asLst x).bind fun l => (intsOf l).bind fun ns => match ns with
  | [] => none
  | i :: r => some (.fr (.int (maxL i r)))
def minO (x : Ob) : Option Ob := (asLst x).bind fun l => (intsOf l).bind fun ns => match ns with
  | [] => none
  | i :: r => some (.fr (.int (minL i r)))
def anyO (x : Ob) : Option Ob := (asLst x).bind fun l => (boolsOf l).bind fun bs => some (fB (bs.any id))
def allO (x : Ob) : Option Ob := (asLst x).bind fun l => (boolsOf l).bind fun bs => some (fB (bs.all id))
def sortO (x : Ob) : Option Ob := (asLst x).bind fun l => if okSort l && short l then some (.lst (isort l)) else none
def reprO (x : Ob) : Option Ob := (asI x).bind fun i => if decide (i.natAbs.log2 < 1920) then some (.fr (.str (toString i))) else none
section
variable {X : Cx} {K : PySem.W.Frag} {Z : Zs} {H : Hp}
theorem g1_some {g : Ob → Option Ob} {os : List Ob} {o : Ob} (h : g1 g os = some o) : ∃ x, os = [x] ∧ g x = some o := by
  unfold g1 at h
  split at h
  · exact ⟨_, rfl, h⟩
  · cases h
theorem g2_some {g : Ob → Ob → Option Ob} {os : List Ob} {o : Ob} (h : g2 g os = some o) : ∃ x y, os = [x, y] ∧ g x y = some o := by
  unfold g2 at h
  split at h
  · exact ⟨_, _, rfl, h⟩
  · cases h
theorem RdL.one {r : List V → Hp → VK → Prop} {g : Ob → Option Ob} (h : ∀ Z H v o a o' Q, Za Z H → RepO K Z H v o a → g o = some o' → Rst K Z H o' Q → r [v] H Q) : RdL K r (g1 g) := fun Z H vs os o' Q za rs e k => by
  obtain ⟨x, rfl, e⟩ := g1_some e
  cases rs with
  | cons r1 t =>
    cases t
    exact h Z H _ x _ o' Q za r1 e k
theorem RdL.two {r : List V → Hp → VK → Prop} {g : Ob → Ob → Option Ob} (h : ∀ Z H v u o p a b o' Q, Za Z H → RepO K Z H v o a → RepO K Z H u p b → g o p = some o' → Rst K Z H o' Q → r [v, u] H Q) : RdL K r (g2 g) := fun Z H vs os o' Q za rs e k => by
  obtain ⟨x, y, rfl, e⟩ := g2_some e
  cases rs with
  | cons r1 t =>
    cases t with
    | cons r2 t =>
      cases t
      exact h Z H _ _ x y _ _ o' Q za r1 r2 e k
theorem LLs.length {bs : List Addr} {ls : List (List PyData)} (h : LLs K Z H bs ls) : bs.length = ls.length := by
  induction h with
  | nil => rfl
  | cons _ _ _ ih => simp [ih]
theorem rd_len : RdL K (fun xs H Q => ∃ p ys, xs = [.ref p] ∧ (SqL K H p ys ∨ SqT K H p ys) ∧ Q (.int ys.length) H) (g1 lenO) := .one fun Z H v o a o' Q za r e k => by
  unfold lenO at e
  split at e
  · rename_i l
    cases e
    cases r with
    | ll h t =>
      rename_i a bs
      refine ⟨a, bs.map V.ref, rfl, .inl (.of h), ?_⟩
      rw [List.length_map, t.length]
      exact k.flat (.int _)
  · obtain ⟨l, el, rfl⟩ := Option.map_eq_some_iff.mp e
    obtain ⟨p, vs, rfl, s, t⟩ := asSeq_rep r el
    refine ⟨p, vs, rfl, s, ?_⟩
    rw [t.length]
    exact k.flat (.int _)
theorem rd_list : RdL K (fun xs H Q => ∃ p ys, xs = [.ref p] ∧ (SqL K H p ys ∨ SqT K H p ys) ∧ ∀ l, H l = none → Q (.ref l) (upd H l (.lst ys))) (g1 listO) := .one fun Z H v o a o' Q za r e k => by
  obtain ⟨l, el, rfl⟩ := Option.map_eq_some_iff.mp e
  obtain ⟨p, vs, rfl, s, t⟩ := asSeq_rep r el
  exact ⟨p, vs, rfl, s, k.lst t za⟩
theorem rd_tuple : RdL K (fun xs H Q => ∃ p ys, xs = [.ref p] ∧ ((SqL K H p ys ∧ ∀ l, H l = none → Q (.ref l) (upd H l (.tup ys))) ∨ (SqT K H p ys ∧ Q (.ref p) H))) (g1 tupO) := .one fun Z H v o a o' Q za r e k => by
  obtain ⟨l, el, rfl⟩ := Option.map_eq_some_iff.mp e
  cases r with
  | fr h =>
    rename_i d
    cases d with
    | list l' =>
      cases el
      cases h with
      | lst _ s t => exact ⟨_, _, rfl, .inl ⟨.of s, k.tup t⟩⟩
    | tuple l' =>
      cases el
      obtain ⟨a, xs, e, s, t⟩ := h.sqt (a := 0)
      subst e
      exact ⟨a, xs, rfl, .inr ⟨s, k.flat h⟩⟩
    | _ => cases el
  | lst h t => cases el; exact ⟨_, _, rfl, .inl ⟨.of h, k.tup t⟩⟩
  | acc h t _ => cases el; exact ⟨_, _, rfl, .inl ⟨.of h, k.tup t⟩⟩
  | scr h =>
    cases el
    rcases h with ⟨_, h⟩ | h
    · exact ⟨_, _, rfl, .inl ⟨.inl h, k.tup (scr_ints _)⟩⟩
    · exact ⟨_, _, rfl, .inl ⟨h H, k.tup (scr_ints _)⟩⟩
  | _ => cases el
theorem rd_abs : RdL K (fun xs H Q => ∃ i, xs = [.int i] ∧ Q (.int (if i < 0 then -i else i)) H) (g1 absO) := .one fun Z H v o a o' Q za r e k => by
  obtain ⟨i, ei, rfl⟩ := Option.map_eq_some_iff.mp e
  exact ⟨i, by rw [asI_rep r ei], k.flat (.int _)⟩
theorem rd_int : RdL K (fun xs H Q => (∃ i, xs = [.int i] ∧ Q (.int i) H) ∨ ∃ k, xs = [.bl k] ∧ Q (.int (if k then 1 else 0)) H) (g1 intO) := .one fun Z H v o a o' Q za r e k => by
  unfold intO at e
  split at e
  · cases e
    exact .inl ⟨_, by rw [asI_rep r rfl], k.flat (.int _)⟩
  · cases e
    exact .inr ⟨_, by rw [asB_rep r rfl], k.flat (.int _)⟩
  · cases e
theorem rd_max2 : RdL K (fun xs H Q => ∃ i j, xs = [.int i, .int j] ∧ Q (.int (if j > i then j else i)) H) (g2 max2O) := .two fun Z H v u o p a b o' Q za r1 r2 e k => by
  obtain ⟨i, ei, e⟩ := bind_some e
  obtain ⟨j, ej, e⟩ := bind_some e
  cases e
  exact ⟨i, j, by rw [asI_rep r1 ei, asI_rep r2 ej], k.flat (.int _)⟩
theorem rd_min2 : RdL K (fun xs H Q => ∃ i j, xs = [.int i, .int j] ∧ Q (.int (if j < i then j else i)) H) (g2 min2O) := .two fun Z H v u o p a b o' Q za r1 r2 e k => by
  obtain ⟨i, ei, e⟩ := bind_some e
  obtain ⟨j, ej, e⟩ := bind_some e
  cases e
  exact ⟨i, j, by rw [asI_rep r1 ei, asI_rep r2 ej], k.flat (.int _)⟩
theorem ints_rep : ∀ {l : List PyData} {ns : List Int} {vs : List V}, intsOf l = some ns → DpZs K Z H vs l → vs = ns.map V.int
  | [], _, _, e, h => by cases e; cases h; rfl
  | d :: ds, ns, _, e, h => by
    obtain ⟨i, ei, e⟩ := bind_some (show ((dInt d).bind fun i => (intsOf ds).bind fun l => some (i :: l)) = some ns from e)
    obtain ⟨l, el, e⟩ := bind_some e
    cases e
    cases h with
    | cons h t =>
      rw [ints_rep el t]
      cases d <;> first | (cases ei; done) | skip
      cases ei
      cases h
      rfl
theorem bools_rep : ∀ {l : List PyData} {ns : List Bool} {vs : List V}, boolsOf l = some ns → DpZs K Z H vs l → vs = ns.map V.bl
  | [], _, _, e, h => by cases e; cases h; rfl
  | d :: ds, ns, _, e, h => by
    obtain ⟨i, ei, e⟩ := bind_some (show ((dBool d).bind fun i => (boolsOf ds).bind fun l => some (i :: l)) = some ns from e)
    obtain ⟨l, el, e⟩ := bind_some e
    cases e
    cases h with
    | cons h t =>
      rw [bools_rep el t]
      cases d <;> first | (cases ei; done) | skip
      cases ei
      cases h
      rfl
theorem sumL_eq : ∀ l : List Int, sumL l = l.sum
  | [] => rfl
  | i :: l => by rw [sumL, sumL_eq l, List.sum_cons]
theorem maxL_le : ∀ (l : List Int) (m : Int), m ≤ maxL m l ∧ (∀ y ∈ l, y ≤ maxL m l) ∧ (maxL m l = m ∨ maxL m l ∈ l)
  | [], m => ⟨Int.le_refl _, fun _ h => (nomatch h), .inl rfl⟩
  | i :: l, m => by
    obtain ⟨h1, h2, h3⟩ := maxL_le l (if m < i then i else m)
    unfold maxL
    by_cases c : m < i
    · rw [if_pos c] at h1 h2 h3 ⊢
      refine ⟨by omega, fun y hy => ?_, ?_⟩
      · rcases List.mem_cons.mp hy with rfl | hy
        · exact h1
        · exact h2 y hy
      · rcases h3 with h3 | h3
        · exact .inr (by rw [h3]; exact List.mem_cons_self)
        · exact .inr (List.mem_cons_of_mem _ h3)
    · rw [if_neg c] at h1 h2 h3 ⊢
      refine ⟨h1, fun y hy => ?_, ?_⟩
      · rcases List.mem_cons.mp hy with rfl | hy
        · omega
        · exact h2 y hy
      · rcases h3 with h3 | h3
        · exact .inl h3
        · exact .inr (List.mem_cons_of_mem _ h3)
theorem minL_le : ∀ (l : List Int) (m : Int), minL m l ≤ m ∧ (∀ y ∈ l, minL m l ≤ y) ∧ (minL m l = m ∨ minL m l ∈ l)
  | [], m => ⟨Int.le_refl _, fun _ h => (nomatch h), .inl rfl⟩
  | i :: l, m => by
    obtain ⟨h1, h2, h3⟩ := minL_le l (if i < m then i else m)
    unfold minL
    by_cases c : i < m
    · rw [if_pos c] at h1 h2 h3 ⊢
      refine ⟨by omega, fun y hy => ?_, ?_⟩
      · rcases List.mem_cons.mp hy with rfl | hy
        · exact h1
        · exact h2 y hy
      · rcases h3 with h3 | h3
        · exact .inr (by rw [h3]; exact List.mem_cons_self)
        · exact .inr (List.mem_cons_of_mem _ h3)
    · rw [if_neg c] at h1 h2 h3 ⊢
      refine ⟨h1, fun y hy => ?_, ?_⟩
      · rcases List.mem_cons.mp hy with rfl | hy
        · omega
        · exact h2 y hy
      · rcases h3 with h3 | h3
        · exact .inl h3
        · exact .inr (List.mem_cons_of_mem _ h3)
theorem rd_sum : RdL K (rSum K) (g1 sumO) := .one fun Z H v o a o' Q za r e k => by
  obtain ⟨l, el, e⟩ := bind_some e
  obtain ⟨ns, en, e⟩ := bind_some e
  cases e
  obtain ⟨p, vs, rfl, s, t⟩ := asLst_rep r el
  refine ⟨p, ns, rfl, by rw [← ints_rep en t]; exact .of s, ?_⟩
  rw [sumL_eq] at k
  exact k.flat (.int _)
theorem rd_max : RdL K (rMax K) (g1 maxO) := .one fun Z H v o a o' Q za r e k => by
  obtain ⟨l, el, e⟩ := bind_some e
  obtain ⟨ns, en, e⟩ := bind_some e
  cases ns with
  | nil => cases e
  | cons i ns =>
    cases e
    obtain ⟨p, vs, rfl, s, t⟩ := asLst_rep r el
    obtain ⟨h1, h2, h3⟩ := maxL_le ns i
    refine ⟨p, i :: ns, rfl, by rw [← ints_rep en t]; exact .of s, Nat.zero_lt_succ _, fun m hm h => ?_⟩
    have e1 : m = maxL i ns := by
      have b1 : m ≤ maxL i ns := by
        rcases List.mem_cons.mp hm with rfl | hm
        · exact h1
        · exact h2 m hm
      have b2 : maxL i ns ≤ m := by
        rcases h3 with h3 | h3
        · rw [h3]; exact h i List.mem_cons_self
        · exact h _ (List.mem_cons_of_mem _ h3)
      omega
    rw [e1]
    exact k.flat (.int _)
theorem rd_min : RdL K (rMin K) (g1 minO) := .one fun Z H v o a o' Q za r e k => by
  obtain ⟨l, el, e⟩ := bind_some e
  obtain ⟨ns, en, e⟩ := bind_some e
  cases ns with
  | nil => cases e
  | cons i ns =>
    cases e
    obtain ⟨p, vs, rfl, s, t⟩ := asLst_rep r el
    obtain ⟨h1, h2, h3⟩ := minL_le ns i
    refine ⟨p, i :: ns, rfl, by rw [← ints_rep en t]; exact .of s, Nat.zero_lt_succ _, fun m hm h => ?_⟩
    have e1 : m = minL i ns := by
      have b1 : minL i ns ≤ m := by
        rcases List.mem_cons.mp hm with rfl | hm
        · exact h1
        · exact h2 m hm
      have b2 : m ≤ minL i ns := by
        rcases h3 with h3 | h3
        · rw [h3]; exact h i List.mem_cons_self
        · exact h _ (List.mem_cons_of_mem _ h3)
      omega
    rw [e1]
    exact k.flat (.int _)
theorem rd_any : RdL K (rAny K) (g1 anyO) := .one fun Z H v o a o' Q za r e k => by
  obtain ⟨l, el, e⟩ := bind_some e
  obtain ⟨ns, en, e⟩ := bind_some e
  cases e
  obtain ⟨p, vs, rfl, s, t⟩ := asLst_rep r el
  exact ⟨p, ns, rfl, by rw [← bools_rep en t]; exact .of s, k.flat (.bl _)⟩
theorem rd_all : RdL K (rAll K) (g1 allO) := .one fun Z H v o a o' Q za r e k => by
  obtain ⟨l, el, e⟩ := bind_some e
  obtain ⟨ns, en, e⟩ := bind_some e
  cases e
  obtain ⟨p, vs, rfl, s, t⟩ := asLst_rep r el
  exact ⟨p, ns, rfl, by rw [← bools_rep en t]; exact .of s, k.flat (.bl _)⟩
theorem rd_repr : RdL K (fun xs H Q => ∃ i, xs = [.int i] ∧ i.natAbs.log2 < 1920 ∧ Q (.str (toString i)) H) (g1 reprO) := .one fun Z H v o a o' Q za r e k => by
  obtain ⟨i, ei, e⟩ := bind_some e
  obtain ⟨c, rfl⟩ := ite_ob e
  exact ⟨i, by rw [asI_rep r ei], of_decide_eq_true c, k.flat (.str _)⟩

/-! ### sorted -/
/-- sorted(xs) of a list of data -/
def rSortA (K : PySem.W.Frag) : List V → Hp → VK → Prop := fun vs H Q => ∃ (a : Addr) (xs : List V) (l : List PyData), vs = [.ref a] ∧ SqL K H a xs ∧ DpAll K H xs l ∧ SortOk l ∧ l.length ≤ sizeLine ∧
  ∀ ys p, H p = none → (∃ zs : List (PyData × V), zs.map (·.1) = isort l ∧ zs.map (·.2) = ys ∧ ∀ z ∈ zs, ∃ i : Nat, xs[i]? = some z.2 ∧ l[i]? = some z.1) → Q (.ref p) (upd H p (.lst ys))
theorem each_of {R : Value → (PyData × V) → Prop} : ∀ {us : List Value} {zs : List (PyData × V)}, PySem.W.EachIs R us zs → (∀ u z, R u z → RelV z.2 u) → Vals (zs.map (·.2)) us
  | _, _, .nil, _ => .nil
  | _, _, .cons h t, f => .cons (f _ _ h) (each_of t f)
theorem op_sortA (hu : X.A.units + 64 < cLine) : CallR X (.builtin "sorted") (rSortA X.K) := by
  intro pins s σ H vs us Q I r h
  obtain ⟨a, xs, l, rfl, hs, hd, ok, hz, q⟩ := h
  obtain ⟨its, rv, hl, _⟩ := I.list hs
  rw [Vals.ref1 r]
  -- the items with their data
  have hlen : xs.length = l.length := by
    have key : ∀ {vs : List V} {ds : List PyData}, DpAll X.K H vs ds → vs.length = ds.length := fun h => by
      induction h using DpAll.rec (motive_1 := fun _ _ _ => True) with
      | nil => rfl
      | cons _ _ _ ih => simp [ih]
      | _ => trivial
    exact key hd
  let zs : List (PyData × V) := l.zip xs
  have z1 : zs.map (·.1) = l := List.map_fst_zip (by omega)
  have z2 : zs.map (·.2) = xs := List.map_snd_zip (by omega)
  have each : ∀ {us : List Value} {vs : List V} {ds : List PyData}, Vals vs us → DpAll X.K H vs ds → PySem.W.EachIs (fun u z => RelV z.2 u ∧ Dp X.K H z.2 z.1) us (ds.zip vs) := by
    intro us vs ds rv hd
    induction rv generalizing ds with
    | nil => cases hd; exact .nil
    | cons r1 _ ih =>
      cases hd with
      | cons h1 h2 => exact .cons ⟨r1, h1⟩ (ih h2)
  have e0 := each rv hd
  have rd : PySem.W.EachIs (fun u z => ∃ as, Reads s.heap u z.1 as) its zs := e0.mono fun u z ⟨h1, h2⟩ => Dp.reads I z.1 z.2 u h2 h1
  have alk : PySem.W.AllAlike (zs.map fun z => z.1) := by
    rw [z1]; exact fun d m d' m' => ok.al d m d' m'
  have srt : PySem.W.Sortable (zs.map fun z => z.1) := by
    rw [z1]; exact ok.so
  have eR : PySem.W.EachIs (fun u z => RelV z.2 u) its zs := e0.mono fun u z h => h.1
  have hzl : zs.length ≤ sizeLine := by
    have : zs.length = l.length := by rw [← z1, List.length_map]
    omega
  have mz : ∀ z ∈ zs, ∃ i : Nat, xs[i]? = some z.2 ∧ l[i]? = some z.1 := fun z m => by
    obtain ⟨i, hi⟩ := List.mem_iff_getElem?.mp m
    have q := List.getElem?_zip_eq_some.mp hi
    exact ⟨i, q.2, q.1⟩
  refine PySem.W.sorted_data hl.isList eR rd alk srt hzl (fun z m => ?_) fun out ho eo => ?_
  · obtain ⟨i, _, hi⟩ := mz z m
    have := ok.dp z.1 (List.mem_of_getElem? hi)
    omega
  · have perm := List.mergeSort_perm zs (PySem.W.dataLe false fun z : PyData × V => z.1)
    obtain ⟨ep, he'⟩ := PyProof.Rows.sortedAll_at s.heap its out.toArray
    have hv : Vals ((zs.mergeSort (PySem.W.dataLe false fun z : PyData × V => z.1)).map (·.2)) out := each_of eo fun _ _ h => h
    have hl2 : ((zs.mergeSort (PySem.W.dataLe false fun z : PyData × V => z.1)).map (·.2)).length ≤ sizeLine := by
      rw [List.length_map, perm.length_eq]; exact hzl
    refine ⟨.ref _, upd H (s.heap.objs.size + 1) (.lst ((zs.mergeSort (PySem.W.dataLe false fun z : PyData × V => z.1)).map (·.2))), I.laid (t' := s.toks) (fun _ _ => PyProof.Rows.sortedAll_old) (Nat.le_succ _) ⟨hl2, out, ep, hv, he'⟩, rfl,
      q _ _ (I.hok.fresh (Nat.le_succ _)) ⟨_, ?_, rfl, fun z m => mz z (perm.mem_iff.mp m)⟩⟩
    have e1 := List.map_mergeSort (r := PySem.W.dataLe false fun z : PyData × V => z.1) (s := PySem.W.dataLe false fun d : PyData => d) (f := (·.1)) (l := zs) fun a _ b _ => rfl
    rw [e1, z1]
    exact sort_eq ok
theorem DpZs.of_ix {vs : List V} {l : List PyData} (h : DpZs K Z H vs l) : ∀ {zs : List (PyData × V)}, (∀ z ∈ zs, ∃ i : Nat, vs[i]? = some z.2 ∧ l[i]? = some z.1) → DpZs K Z H (zs.map (·.2)) (zs.map (·.1))
  | [], _ => .nil
  | z :: zs, m => by
    obtain ⟨i, h1, h2⟩ := m z List.mem_cons_self
    obtain ⟨d, h3, h4⟩ := h.at h1
    rw [h2] at h3
    cases h3
    exact .cons h4 (DpZs.of_ix h fun z hz => m z (List.mem_cons_of_mem _ hz))
theorem rd_sort : RdL K (rSortA K) (g1 sortO) := .one fun Z H v o a o' Q za r e k => by
  obtain ⟨l, el, e⟩ := bind_some e
  obtain ⟨c, rfl⟩ := ite_ob e
  obtain ⟨c1, c2⟩ := Bool.and_eq_true_iff.mp c
  obtain ⟨p, vs, rfl, s, t⟩ := asLst_rep r el
  refine ⟨p, vs, l, rfl, .of s, t.dp, okSort_ok c1, short_ok c2, fun ys q nq hz => ?_⟩
  obtain ⟨zs, h1, h2, h3⟩ := hz
  have d := t.of_ix h3
  rw [h1, h2] at d
  exact k.lst d za q nq
end
end DL

namespace DL
open PySem PySem.Spec PyProof.Rows L2

/-! ## what is walked -/
structure Kp (Z : Zs) (H : Hp) (Z' : Zs) (H' : Hp) : Prop where
  zu : ∀ b, Z b → Z' b
  zs : ∀ b o, Z b → H b = some o → H' b = some o
  ts : ∀ b xs, H b = some (.tup xs) → H' b = some (.tup xs)
section
variable {K : PySem.W.Frag} {Z Z' : Zs} {H H' : Hp} {fp fq : List Addr}
theorem Fr.kp (a : Fr H fp Z H' fq Z') (o : Own Z H fp) : Kp Z H Z' H' := ⟨a.zup, fun b u z e => a.same b u e (o.nzf b z), fun b xs e => a.same b _ e (o.nt b xs e)⟩
theorem DpZ.kp {v : V} {d : PyData} (h : DpZ K Z H v d) (k : Kp Z H Z' H') : DpZ K Z' H' v d := h.keep k.zu k.zs k.ts
theorem DpZs.kp {v : List V} {d : List PyData} (h : DpZs K Z H v d) (k : Kp Z H Z' H') : DpZs K Z' H' v d := h.keep k.zu k.zs k.ts
end
abbrev Rel1 := Zs → Hp → V → PyData → Prop
def IterR (R : Rel1) (Z : Zs) (H : Hp) (J : It) (ds : List PyData) : Prop := ∀ (i : Nat) (Z2 : Zs) (H2 : Hp), Kp Z H Z2 H2 → Za Z2 H2 →
  (∀ d, ds[i]? = some d → J.go i H2 ∧ ∀ x H3, J.yld i H2 x H3 → ∃ Z3, R Z3 H3 x d ∧ Fr H2 [] Z2 H3 [] Z3) ∧ (ds.length ≤ i → J.stop i H2)
abbrev IterOk (K : PySem.W.Frag) := IterR (DpZ K)
def tIR (K : PySem.W.Frag) (R : Rel1) (f : FD) : TI := fun σ H Rk => ∃ Z ρ fp ds, Stt K Z H σ ρ fp ∧ f ρ = some ds ∧ ∀ Z' H' J, IterR R Z' H' J ds → Fr H [] Z H' [] Z' → Rk J H'
abbrev tI (K : PySem.W.Frag) (f : FD) : TI := tIR K (DpZ K) f
abbrev DI (X : Cx) (tg e : Expr) (f : FD) : Prop := PI X tg e (tI X.K f)
theorem PI.imp {X : Cx} {tg e : Expr} {t t' : TI} (h : PI X tg e t) (k : ∀ σ H Q, t' σ H Q → t σ H Q) : PI X tg e t' := ⟨fun pins s σ H Q I q => h.run pins s σ H Q I (k σ H Q q)⟩
theorem PI.or {X : Cx} {tg e : Expr} {t t' : TI} (h : PI X tg e t) (h' : PI X tg e t') : PI X tg e (fun σ H R => t σ H R ∨ t' σ H R) := ⟨fun pins s σ H Q I q => q.elim (h.run pins s σ H Q I) (h'.run pins s σ H Q I)⟩
def dSeq : PyData → Option (List PyData)
  | .list l => some l
  | .tuple l => some l
  | _ => none
def iSeq (f : F1) : FD := fun ρ => (f ρ).bind fun o => (fz o).bind dSeq
def rangeD : Int → Nat → List PyData
  | _, 0 => []
  | i, n + 1 => .int i :: rangeD (i + 1) n
def rangeC (c : Int) : Int → Nat → List PyData
  | _, 0 => []
  | i, n + 1 => .int i :: rangeC c (i + c) n
def sm62 (i : Int) : Bool := decide (-(2 ^ 62) ≤ i) && decide (i < 2 ^ 62)
def iRng1 (fl : FL) : FD := fun ρ => (fl ρ).bind fun os => match os with
  | [x] => (asI x).bind fun j => if sm62 j then some (rangeD 0 j.toNat) else none
  | _ => none
def iRng2 (fl : FL) : FD := fun ρ => (fl ρ).bind fun os => match os with
  | [x, y] => (asI x).bind fun i => (asI y).bind fun j => if sm62 i && sm62 j then some (rangeD i (j - i).toNat) else none
  | _ => none
def iRng3 (fl : FL) : FD := fun ρ => (fl ρ).bind fun os => match os with
  | [x, y, z] => (asI x).bind fun i => (asI y).bind fun j => (asI z).bind fun c => if !decide (c = 0) && (decide (c.natAbs < 1073741824) && Builtin.Range.small i j c) then some (rangeC c i (Builtin.Range.rangeSize i j c).toNat) else none
  | _ => none
theorem rangeD_at : ∀ (n : Nat) (a : Int) (i : Nat) (d : PyData), (rangeD a n)[i]? = some d → i < n ∧ d = .int (a + i)
  | 0, _, _, _, h => by simp [rangeD] at h
  | n + 1, a, 0, d, h => by
    simp [rangeD] at h
    exact ⟨Nat.zero_lt_succ _, by rw [← h]; simp⟩
  | n + 1, a, i + 1, d, h => by
    obtain ⟨h1, h2⟩ := rangeD_at n (a + 1) i d (by simpa [rangeD] using h)
    refine ⟨Nat.succ_lt_succ h1, ?_⟩
    rw [h2]
    congr 1
    omega
theorem rangeD_len : ∀ (n : Nat) (a : Int), (rangeD a n).length = n
  | 0, _ => rfl
  | n + 1, a => by simp [rangeD, rangeD_len n]
theorem rangeC_at : ∀ (n : Nat) (c a : Int) (i : Nat) (d : PyData), (rangeC c a n)[i]? = some d → i < n ∧ d = .int (a + (i : Nat) * c)
  | 0, _, _, _, _, h => by simp [rangeC] at h
  | n + 1, c, a, 0, d, h => by
    simp [rangeC] at h
    exact ⟨Nat.zero_lt_succ _, by rw [← h]; simp⟩
  | n + 1, c, a, i + 1, d, h => by
    obtain ⟨h1, h2⟩ := rangeC_at n c (a + c) i d (by simpa [rangeC] using h)
    refine ⟨Nat.succ_lt_succ h1, ?_⟩
    rw [h2]
    congr 1
    have : ((i + 1 : Nat) : Int) * c = (i : Int) * c + c := by rw [show ((i + 1 : Nat) : Int) = (i : Int) + 1 by omega, Int.add_mul]; omega
    omega
theorem rangeC_len : ∀ (n : Nat) (c a : Int), (rangeC c a n).length = n
  | 0, _, _ => rfl
  | n + 1, c, a => by simp [rangeC, rangeC_len n]
section
variable {X : Cx} {tg e : Expr} {f : F1} {fl : FL} {p pos : Pos}
theorem iter_l {K : PySem.W.Frag} {Z : Zs} {H : Hp} {a : Addr} {vs : List V} {l : List PyData} (hz : Z a) (hh : H a = some (.lst vs)) (t : DpZs K Z H vs l) : IterOk K Z H (Itl K a) l := fun i Z2 H2 k za => by
  have h2 : SqL K H2 a vs := .of (k.zs _ _ hz hh)
  refine ⟨fun d hd => ?_, fun hl => ⟨vs, h2, by rw [t.length]; exact hl⟩⟩
  obtain ⟨v, h3, h4⟩ := t.atD hd
  refine ⟨⟨vs, v, h2, h3⟩, fun x H3 y => ?_⟩
  obtain ⟨rfl, hy⟩ := y
  have e := (hy vs h2).symm.trans h3
  cases e
  exact ⟨Z2, h4.kp k, .refl⟩
theorem iter_t {K : PySem.W.Frag} {Z : Zs} {H : Hp} {a : Addr} {vs : List V} {l : List PyData} (hh : ∀ Z2 H2, Kp Z H Z2 H2 → SqT K H2 a vs) (t : DpZs K Z H vs l) : IterOk K Z H (Itt K a) l := fun i Z2 H2 k za => by
  have h2 : SqT K H2 a vs := hh Z2 H2 k
  refine ⟨fun d hd => ?_, fun hl => ⟨vs, h2, by rw [t.length]; exact hl⟩⟩
  obtain ⟨v, h3, h4⟩ := t.atD hd
  refine ⟨⟨vs, v, h2, h3⟩, fun x H3 y => ?_⟩
  obtain ⟨rfl, hy⟩ := y
  have e := (hy vs h2).symm.trans h3
  cases e
  exact ⟨Z2, h4.kp k, .refl⟩
theorem i_seq (h : DP X e f) : DI X tg e (iSeq f) := PI.imp (DL.PI.or (pi_list h) (pi_tup h)) fun σ H R q => by
  obtain ⟨Z, ρ, fp, ds, S, e, k⟩ := q
  obtain ⟨o, eo, e⟩ := bind_some e
  obtain ⟨d, ed, e⟩ := bind_some e
  cases d <;> first | (cases e; done) | skip
  · rename_i l
    cases e
    refine .inl ⟨Z, ρ, fp, o, S, eo, fun Z1 H1 v1 g1 r1 o1 a1 => ?_⟩
    have dz := r1.frz ed
    cases dz with
    | lst z h t => exact ⟨_, rfl, ⟨_, .of h⟩, k _ H1 _ (iter_l z h t) (a1.frz0 o1)⟩
  · rename_i l
    cases e
    refine .inr ⟨Z, ρ, fp, o, S, eo, fun Z1 H1 v1 g1 r1 o1 a1 => ?_⟩
    have dz := r1.frz ed
    cases dz with
    | tup h t => exact ⟨_, rfl, ⟨_, .of h⟩, k _ H1 _ (iter_t (fun _ _ kk => .of (kk.ts _ _ h)) t) (a1.frz0 o1)⟩
theorem iter_r {K : PySem.W.Frag} {Z : Zs} {H : Hp} {a : Int} {n : Nat} : IterOk K Z H (Itr a n) (rangeD a n) := fun i Z2 H2 k za => by
  refine ⟨fun d hd => ?_, fun hl => by rw [rangeD_len] at hl; exact hl⟩
  obtain ⟨h1, rfl⟩ := rangeD_at n a i d hd
  refine ⟨h1, fun x H3 y => ?_⟩
  obtain ⟨rfl, rfl⟩ := y
  exact ⟨Z2, .int _, .refl⟩
theorem iter_c {K : PySem.W.Frag} {Z : Zs} {H : Hp} {a c : Int} {n : Nat} : IterOk K Z H (Itc a c n) (rangeC c a n) := fun i Z2 H2 k za => by
  refine ⟨fun d hd => ?_, fun hl => by rw [rangeC_len] at hl; exact hl⟩
  obtain ⟨h1, rfl⟩ := rangeC_at n c a i d hd
  refine ⟨h1, fun x H3 y => ?_⟩
  obtain ⟨rfl, rfl⟩ := y
  exact ⟨Z2, .int _, .refl⟩
theorem sm62_ok {i : Int} (h : sm62 i = true) : -(2 ^ 62) ≤ i ∧ i < 2 ^ 62 := by
  obtain ⟨a, b⟩ := Bool.and_eq_true_iff.mp h
  exact ⟨of_decide_eq_true a, of_decide_eq_true b⟩
theorem ite_ds {c : Bool} {o o' : List PyData} (h : (if c = true then some o else none) = some o') : c = true ∧ o = o' := by
  cases c with
  | true => exact ⟨rfl, Option.some.inj h⟩
  | false => cases h
variable {a b c : Expr}
theorem i_range1 (hg : Gl X "range") (hm : X.mg "range" = none) (ha : PRA X [a] fl) (hs : starEach [a] X.env = [(false, eval a X.env)] := by rfl) : DI X tg (.Call (.Name "range" p) [a] [] pos) (iRng1 fl) := PI.imp (pi_range1 hg hm ha hs) fun σ H R q => by
  obtain ⟨Z, ρ, fp, ds, S, e, k⟩ := q
  obtain ⟨os, eo, e⟩ := bind_some e
  split at e
  · rename_i x
    obtain ⟨j, ej, e⟩ := bind_some e
    obtain ⟨c, rfl⟩ := ite_ds e
    obtain ⟨b1, b2⟩ := sm62_ok c
    refine ⟨Z, ρ, fp, _, S, eo, fun Z1 H1 vs r1 a1 => ?_⟩
    cases r1 with
    | cons r1 t =>
      cases t
      exact ⟨j, by rw [asI_rep r1 ej], b1, b2, k Z1 H1 _ iter_r a1⟩
  · cases e
theorem i_range2 (hg : Gl X "range") (hm : X.mg "range" = none) (ha : PRA X [a, b] fl) (hs : starEach [a, b] X.env = [(false, eval a X.env), (false, eval b X.env)] := by rfl) (hs2 : starEach [b] X.env = [(false, eval b X.env)] := by rfl) : DI X tg (.Call (.Name "range" p) [a, b] [] pos) (iRng2 fl) := PI.imp (pi_range2 hg hm ha hs hs2) fun σ H R q => by
  obtain ⟨Z, ρ, fp, ds, S, e, k⟩ := q
  obtain ⟨os, eo, e⟩ := bind_some e
  split at e
  · rename_i x y
    obtain ⟨i, ei, e⟩ := bind_some e
    obtain ⟨j, ej, e⟩ := bind_some e
    obtain ⟨c, rfl⟩ := ite_ds e
    obtain ⟨c1, c2⟩ := Bool.and_eq_true_iff.mp c
    obtain ⟨b1, b2⟩ := sm62_ok c1
    obtain ⟨b3, b4⟩ := sm62_ok c2
    refine ⟨Z, ρ, fp, _, S, eo, fun Z1 H1 vs r1 a1 => ?_⟩
    cases r1 with
    | cons r1 t =>
      cases t with
      | cons r2 t =>
        cases t
        exact ⟨i, j, by rw [asI_rep r1 ei, asI_rep r2 ej], ⟨b1, b2, b3, b4⟩, k Z1 H1 _ iter_r a1⟩
  · cases e
end

/-! ## targets -/
structure KpB (B : List Nat) (σ σ' : L2.St) : Prop where
  len : σ'.length = σ.length
  at_ : ∀ i ∈ B, σ'[i]? = σ[i]?
theorem KpB.rfl {B : List Nat} {σ : L2.St} : KpB B σ σ := ⟨Eq.refl _, fun _ _ => Eq.refl _⟩
theorem KpB.trans {B : List Nat} {σ σ1 σ2 : L2.St} (k : KpB B σ σ1) (k' : KpB B σ1 σ2) : KpB B σ σ2 := ⟨k'.len.trans k.len, fun i m => (k'.at_ i m).trans (k.at_ i m)⟩
abbrev FT := PyData → Env → Option Env
/-- data put to a target -/
def tGR (K : PySem.W.Frag) (R : Rel1) (B : List Nat) (f : FT) : TG := fun v σ H Q => ∃ Z ρ fp d ρ', Stt K Z H σ ρ fp ∧ R Z H v d ∧ f d ρ = some ρ' ∧ ∀ σ' fp', Stt K Z H σ' ρ' fp' → (∀ b ∈ fp', b ∈ fp) → KpB B σ σ' → Q σ' H
abbrev tG (K : PySem.W.Frag) (B : List Nat) (f : FT) : TG := tGR K (DpZ K) B f
abbrev DG (X : Cx) (B : List Nat) (tg : Expr) (f : FT) : Prop := PG X tg (tG X.K B f)
abbrev FTs := List PyData → Env → Option Env
def tGs (K : PySem.W.Frag) (B : List Nat) (f : FTs) : TGs := fun v σ H Q => ∃ Z ρ fp d ρ', Stt K Z H σ ρ fp ∧ DpZs K Z H v d ∧ f d ρ = some ρ' ∧ ∀ σ' fp', Stt K Z H σ' ρ' fp' → (∀ b ∈ fp', b ∈ fp) → KpB B σ σ' → Q σ' H
abbrev DGs (X : Cx) (B : List Nat) (tg : List Expr) (f : FTs) : Prop := PGs X tg (tGs X.K B f)
section
variable {K : PySem.W.Frag} {Z : Zs} {H : Hp}
/-- a slot gets an object -/
theorem ER.set {σ : L2.St} {ρ : Env} {fp : List Addr} (h : ER K Z H σ ρ fp) {v : V} {o : Ob} {g : List Addr} (r : RepO K Z H v o g) : ∀ (i : Nat), (g ++ fp).Nodup → ∃ fp', ER K Z H (σ.set i (some v)) (ρ.set i (some o)) fp' ∧ (∀ b ∈ fp', b ∈ g ++ fp) ∧ fp'.Nodup := by
  induction h with
  | nil => intro i nd; exact ⟨[], .nil, fun _ m => (nomatch m), List.nodup_nil⟩
  | @no x σ ρ fp h ih =>
    intro i nd
    cases i with
    | zero => exact ⟨g ++ fp, .one r h, fun b m => m, nd⟩
    | succ i =>
      obtain ⟨fp', h1, h2, h3⟩ := ih i nd
      exact ⟨fp', .no h1, h2, h3⟩
  | @one w o' g' σ ρ fp r' h ih =>
    intro i nd
    obtain ⟨n1, n2, n3⟩ := List.nodup_append.mp nd
    obtain ⟨n4, n5, n6⟩ := List.nodup_append.mp n2
    have nd' : (g ++ fp).Nodup := List.nodup_append.mpr ⟨n1, n5, fun a m b m' => n3 a m b (List.mem_append_right _ m')⟩
    cases i with
    | zero =>
      refine ⟨g ++ fp, .one r h, fun b m => ?_, nd'⟩
      rcases List.mem_append.mp m with m | m
      · exact List.mem_append_left _ m
      · exact List.mem_append_right _ (List.mem_append_right _ m)
    | succ i =>
      obtain ⟨fp', h1, h2, h3⟩ := ih i nd'
      refine ⟨g' ++ fp', .one r' h1, fun b m => ?_, List.nodup_append.mpr ⟨n4, h3, fun a m b m' e => ?_⟩⟩
      · rcases List.mem_append.mp m with m | m
        · exact List.mem_append_right _ (List.mem_append_left _ m)
        · rcases List.mem_append.mp (h2 b m) with m | m
          · exact List.mem_append_left _ m
          · exact List.mem_append_right _ (List.mem_append_right _ m)
      · subst e
        rcases List.mem_append.mp (h2 a m') with m' | m'
        · exact n3 a m' a (List.mem_append_left _ m) rfl
        · exact n6 a m a m' rfl
theorem Own.sub {fp fp' : List Addr} (h : Own Z H fp) (s : ∀ b ∈ fp', b ∈ fp) (nd : fp'.Nodup) : Own Z H fp' := ⟨nd, fun a m => h.nz a (s a m), fun a m => h.al a (s a m)⟩
theorem Stt.set {σ : L2.St} {ρ : Env} {fp g : List Addr} (S : Stt K Z H σ ρ fp) {v : V} {o : Ob} (r : RepO K Z H v o g) (ow : Own Z H (g ++ fp)) (i : Nat) : ∃ fp', Stt K Z H (σ.set i (some v)) (ρ.set i (some o)) fp' ∧ ∀ b ∈ fp', b ∈ g ++ fp := by
  obtain ⟨fp', h1, h2, h3⟩ := S.er.set r i ow.nd
  exact ⟨fp', ⟨h1, ow.sub h2 h3, S.za⟩, h2⟩
theorem kpB_set {B : List Nat} {σ : L2.St} {i : Nat} {x : Option V} (h : i ∉ B) : KpB B σ (σ.set i x) := ⟨by simp, fun j m => by
  have : i ≠ j := fun e => h (e ▸ m)
  rw [List.getElem?_set_ne this]⟩
end
def gN (i : Nat) : FT := fun d ρ => some (ρ.set i (some (.fr d)))
def gT (n : Nat) (f : FTs) : FT := fun d ρ => match d with
  | .tuple l => if Nat.beq l.length n then f l ρ else none
  | _ => none
def gNil' : FTs := fun ds ρ => match ds with
  | [] => some ρ
  | _ => none
def gCons' (f : FT) (fs : FTs) : FTs := fun ds ρ => match ds with
  | d :: r => (f d ρ).bind fun ρ' => fs r ρ'
  | [] => none
section
variable {X : Cx} {B : List Nat} {pos : Pos} {e : Expr} {es : List Expr} {f : FT} {fs : FTs}
theorem PG.imp {X : Cx} {tg : Expr} {t t' : TG} (h : PG X tg t) (k : ∀ v σ H Q, t' v σ H Q → t v σ H Q) : PG X tg t' := ⟨fun pins s σ H v u Q I r q => h.run pins s σ H v u Q I r (k v σ H Q q)⟩
theorem PGs.imp {X : Cx} {tg : List Expr} {t t' : TGs} (h : PGs X tg t) (k : ∀ v σ H Q, t' v σ H Q → t v σ H Q) : PGs X tg t' := ⟨fun pins s σ H v u Q I r q => h.run pins s σ H v u Q I r (k v σ H Q q)⟩
theorem g_name (i : Nat) {x : Str} (hN : X.N.Nodup) (hi : X.N[i]? = some x := by rfl) (hx : Loc X.env.scope x := by first | exact .inl rfl | exact .inr rfl) (hB : i ∉ B := by decide) (hf : X.fn x = true ∨ X.env.scope.names.lookup x = some .local := by first | exact .inl rfl | exact .inr rfl) : DG X B (.Name x pos) (gN i) := PG.imp (pg_name hN hi hx hf) fun v σ H Q h => by
  obtain ⟨Z, ρ, fp, d, ρ', S, dz, e, k⟩ := h
  cases e
  obtain ⟨fp', S', hs⟩ := S.set (g := []) (.fr dz) (by simpa using S.own) i
  exact k _ fp' S' (fun b m => by simpa using hs b m) (kpB_set hB)
theorem g_nil : DGs X B [] gNil' := PGs.imp pgs_nil fun v σ H Q h => by
  obtain ⟨Z, ρ, fp, d, ρ', S, dz, e, k⟩ := h
  cases dz with
  | nil => cases e; exact ⟨rfl, k σ fp S (fun b m => m) .rfl⟩
  | cons _ _ => cases e
theorem g_cons (h1 : DG X B e f) (h2 : DGs X B es fs) (hs : (assignEach (e :: es) X.env).map (·.2) = assign e X.env :: (assignEach es X.env).map (·.2) := by rfl) : DGs X B (e :: es) (gCons' f fs) := PGs.imp (pgs_cons h1 h2 hs) fun v σ H Q h => by
  obtain ⟨Z, ρ, fp, d, ρ', S, dz, e, k⟩ := h
  cases dz with
  | nil => cases e
  | cons h t =>
    obtain ⟨ρ1, e1, e⟩ := bind_some e
    exact ⟨_, _, rfl, Z, ρ, fp, _, ρ1, S, h, e1, fun σ1 fp1 S1 s1 k1 => ⟨Z, ρ1, fp1, _, ρ', S1, t, e, fun σ2 fp2 S2 s2 k2 => k σ2 fp2 S2 (fun b m => s1 b (s2 b m)) (k1.trans k2)⟩⟩
theorem g_tup {k n : Nat} (hc : X.calm = true) (h : DGs X B es fs) (hn : (assignEach es X.env).length = n := by rfl) (hst : (assignEach es X.env).findIdx? (·.1) = none := by rfl) : DG X B (.Tuple es k pos) (gT n fs) := PG.imp (pg_tup hc h hn hst) fun v σ H Q h => by
  obtain ⟨Z, ρ, fp, d, ρ', S, dz, e, k⟩ := h
  cases d <;> first | (cases e; done) | skip
  rename_i l
  have e : (if Nat.beq l.length n = true then fs l ρ else none) = some ρ' := e
  split at e
  · rename_i c
    obtain ⟨a, xs, rfl, s, t⟩ := dz.sqt (a := 0)
    exact ⟨a, xs, rfl, s, by rw [t.length]; exact Nat.eq_of_beq_eq_true c, Z, ρ, fp, l, ρ', S, t, e, k⟩
  · cases e
end

/-! ## statements -/
inductive Out where
  | nx (ρ : Env) | rt (o : Ob) (ρ : Env) | bk (ρ : Env) | ct (ρ : Env)
abbrev FS := Env → Option Out
def OutK (K : PySem.W.Frag) (B : List Nat) (Z : Zs) (H : Hp) (σ : L2.St) (fp : List Addr) (D : Ends) : Out → Prop
  | .nx ρ' => ∀ Z' H' σ' fp', Stt K Z' H' σ' ρ' fp' → Fr H fp Z H' fp' Z' → KpB B σ σ' → D.nx σ' H'
  | .bk ρ' => ∀ Z' H' σ' fp', Stt K Z' H' σ' ρ' fp' → Fr H fp Z H' fp' Z' → KpB B σ σ' → D.bk σ' H'
  | .ct ρ' => ∀ Z' H' σ' fp', Stt K Z' H' σ' ρ' fp' → Fr H fp Z H' fp' Z' → KpB B σ σ' → D.ct σ' H'
  | .rt o ρ' => ∀ Z' H' σ' fp' v g, Stt K Z' H' σ' ρ' fp' → RepO K Z' H' v o g → Own Z' H' (g ++ fp') → Fr H fp Z H' (g ++ fp') Z' → KpB B σ σ' → D.rt v H'
def tS (K : PySem.W.Frag) (B : List Nat) (f : FS) : TS := fun D σ H => ∃ Z ρ fp r, Stt K Z H σ ρ fp ∧ f ρ = some r ∧ OutK K B Z H σ fp D r
abbrev DS (X : Cx) (B : List Nat) (st : Stmt) (f : FS) : Prop := PS X st (tS X.K B f)
abbrev DSs (X : Cx) (B : List Nat) (st : List Stmt) (f : FS) : Prop := PSs X st (tS X.K B f)
theorem PS.imp {X : Cx} {e : Stmt} {t t' : TS} (h : PS X e t) (k : ∀ D σ H, t' D σ H → t D σ H) : PS X e t' := ⟨fun pins s σ H Q I q => h.run pins s σ H Q I (k Q σ H q)⟩
theorem PSs.imp {X : Cx} {e : List Stmt} {t t' : TS} (h : PSs X e t) (k : ∀ D σ H, t' D σ H → t D σ H) : PSs X e t' := ⟨fun pins s σ H Q I q => h.run pins s σ H Q I (k Q σ H q)⟩
section
variable {K : PySem.W.Frag} {B : List Nat} {Z Z1 : Zs} {H H1 : Hp} {σ σ1 : L2.St} {fp fp1 : List Addr} {D : Ends}
theorem OutK.on {r : Out} (h : OutK K B Z H σ fp D r) (a : Fr H fp Z H1 fp1 Z1) (k : KpB B σ σ1) : OutK K B Z1 H1 σ1 fp1 D r := by
  cases r with
  | nx ρ' => exact fun Z' H' σ' fp' S a' k' => h Z' H' σ' fp' S (a.trans a') (k.trans k')
  | bk ρ' => exact fun Z' H' σ' fp' S a' k' => h Z' H' σ' fp' S (a.trans a') (k.trans k')
  | ct ρ' => exact fun Z' H' σ' fp' S a' k' => h Z' H' σ' fp' S (a.trans a') (k.trans k')
  | rt o ρ' => exact fun Z' H' σ' fp' v g S r o' a' k' => h Z' H' σ' fp' v g S r o' (a.trans a') (k.trans k')
/-- behind something pure -/
theorem OutK.still {ρ : Env} {r : Out} (h : OutK K B Z H σ fp D r) (S : Stt K Z H σ ρ fp) (a : Fr H [] Z H1 [] Z1) : OutK K B Z1 H1 σ fp D r := h.on (by
  have q := a.aside (g := fp)
  rw [List.append_nil] at q
  exact q) .rfl
end
def fSeq (f g : FS) : FS := fun ρ => (f ρ).bind fun r => match r with
  | .nx ρ' => g ρ'
  | r => some r
def fNx : FS := fun ρ => some (.nx ρ)
def fRet (f : F1) : FS := fun ρ => (f ρ).bind fun o => some (.rt o ρ)
def fRetN : FS := fun ρ => some (.rt (.fr .none) ρ)
def fSet (i : Nat) (f : F1) : FS := fun ρ => (f ρ).bind fun o => some (.nx (ρ.set i (some o)))
def fIf (c : FB) (f g : FS) : FS := fun ρ => (c ρ).bind fun b => if b then f ρ else g ρ
def fFrz (i : Nat) (f : FS) : FS := fun ρ => match ρ[i]? with
  | some (some o) => (fz o).bind fun d => f (ρ.set i (some (.fr d)))
  | _ => none
def forL (ga : FT) (fb : FS) : List PyData → Env → Option Out
  | [], ρ => some (.nx ρ)
  | d :: ds, ρ => (ga d ρ).bind fun ρ1 => (fb ρ1).bind fun r => match r with
    | .nx ρ2 => forL ga fb ds ρ2
    | .ct ρ2 => forL ga fb ds ρ2
    | .bk ρ2 => some (.nx ρ2)
    | .rt o ρ2 => some (.rt o ρ2)
def fFor (fi : FD) (ga : FT) (fb : FS) : FS := fun ρ => (fi ρ).bind fun ds => forL ga fb ds ρ
def whL (c : FB) (fb : FS) : Nat → Env → Option Out
  | 0, _ => none
  | n + 1, ρ => (c ρ).bind fun b => if b then (fb ρ).bind fun r => match r with
    | .nx ρ2 => whL c fb n ρ2
    | .ct ρ2 => whL c fb n ρ2
    | .bk ρ2 => some (.nx ρ2)
    | .rt o ρ2 => some (.rt o ρ2)
    else some (.nx ρ)
/-- a while, of so many turns at most -/
def fWh (n : Env → Nat) (c : FB) (fb : FS) : FS := fun ρ => whL c fb (n ρ) ρ
section
variable {X : Cx} {B : List Nat} {pos : Pos} {st : Stmt} {sts : List Stmt} {f g : FS} {e : Expr} {fe : F1} {c : FB}
theorem s_nil : DSs X B [] fNx := PSs.imp pss_nil fun D σ H h => by
  obtain ⟨Z, ρ, fp, r, S, e, k⟩ := h
  cases e
  exact k Z H σ fp S .refl .rfl
theorem s_one (h : DS X B st f) : DSs X B [st] f := pss_one h
theorem s_cons (h1 : DS X B st f) (h2 : DSs X B sts g) : DSs X B (st :: sts) (fSeq f g) := PSs.imp (pss_cons h1 h2) fun D σ H h => by
  obtain ⟨Z, ρ, fp, r, S, e, k⟩ := h
  obtain ⟨r1, e1, e⟩ := bind_some e
  refine ⟨Z, ρ, fp, r1, S, e1, ?_⟩
  cases r1 with
  | nx ρ1 => exact fun Z' H' σ' fp' S' a' k' => ⟨Z', ρ1, fp', r, S', e, k.on a' k'⟩
  | bk ρ1 => cases e; exact k
  | ct ρ1 => cases e; exact k
  | rt o ρ1 => cases e; exact k
theorem s_pass : DS X B (.Pass pos) fNx := PS.imp ps_pass fun D σ H h => by
  obtain ⟨Z, ρ, fp, r, S, e, k⟩ := h
  cases e
  exact k Z H σ fp S .refl .rfl
theorem s_brk : DS X B (.Break pos) (fun ρ => some (.bk ρ)) := PS.imp ps_break fun D σ H h => by
  obtain ⟨Z, ρ, fp, r, S, e, k⟩ := h
  cases e
  exact k Z H σ fp S .refl .rfl
theorem s_cnt : DS X B (.Continue pos) (fun ρ => some (.ct ρ)) := PS.imp ps_continue fun D σ H h => by
  obtain ⟨Z, ρ, fp, r, S, e, k⟩ := h
  cases e
  exact k Z H σ fp S .refl .rfl
/-- what a pure, separate value is beside the locals -/
theorem beside {K : PySem.W.Frag} {Z Z1 : Zs} {H H1 : Hp} {σ : L2.St} {ρ : Env} {fp g : List Addr} (S : Stt K Z H σ ρ fp) (o1 : Own Z1 H1 g) (a1 : Fr H [] Z H1 g Z1) : Stt K Z1 H1 σ ρ fp ∧ Own Z1 H1 (g ++ fp) ∧ Fr H fp Z H1 (g ++ fp) Z1 := by
  have o2 : Own Z1 H1 (fp ++ g) := S.own.fresh a1 o1
  have a2 : Fr H fp Z H1 (fp ++ g) Z1 := by
    have q := a1.aside (g := fp)
    rw [List.append_nil] at q
    exact q
  exact ⟨S.still a1, o2.swap, a2.less fun b m => List.mem_append.mpr (List.mem_append.mp m).symm⟩
theorem s_ret (h : DP X e fe) : DS X B (.Return (some e) pos) (fRet fe) := PS.imp (ps_ret h) fun D σ H h => by
  obtain ⟨Z, ρ, fp, r, S, e, k⟩ := h
  obtain ⟨o, eo, e⟩ := bind_some e
  cases e
  refine ⟨Z, ρ, fp, o, S, eo, fun Z1 H1 v1 g1 r1 o1 a1 => ?_⟩
  obtain ⟨S1, ow, fr⟩ := beside S o1 a1
  exact k Z1 H1 σ fp v1 g1 S1 r1 ow fr .rfl
theorem s_retN : DS X B (.Return none pos) fRetN := PS.imp ps_retN fun D σ H h => by
  obtain ⟨Z, ρ, fp, r, S, e, k⟩ := h
  cases e
  exact k Z H σ fp .non [] S (.fr .non) (by simpa using S.own) .refl .rfl
theorem s_set (i : Nat) {x : Str} {pos' : Pos} (hN : X.N.Nodup) (he : DP X e fe) (hi : X.N[i]? = some x := by rfl) (hx : Loc X.env.scope x := by first | exact .inl rfl | exact .inr rfl) (hB : i ∉ B := by decide) (hs : swapsWith e (some (.Name x pos')) pos.line X.env = pure false := by rfl) (hf : X.fn x = true ∨ X.env.scope.names.lookup x = some .local := by first | exact .inl rfl | exact .inr rfl) :
    DS X B (.Assign [.Name x pos'] e pos) (fSet i fe) := PS.imp (ps_set hN hi hx he hs hf) fun D σ H h => by
  obtain ⟨Z, ρ, fp, r, S, e, k⟩ := h
  obtain ⟨o, eo, e⟩ := bind_some e
  cases e
  refine ⟨Z, ρ, fp, o, S, eo, fun Z1 H1 v1 g1 r1 o1 a1 => ?_⟩
  obtain ⟨S1, ow, fr⟩ := beside S o1 a1
  obtain ⟨fp', S2, hs⟩ := S1.set r1 ow i
  exact k Z1 H1 _ fp' S2 (fr.less hs) (kpB_set hB)
theorem s_if {a b : List Stmt} {ce : Expr} (hc : TD X ce c) (ha : DSs X B a f) (hb : DSs X B b g) : DS X B (.If ce a b pos) (fIf c f g) := PS.imp (ps_if hc ha hb) fun D σ H h => by
  obtain ⟨Z, ρ, fp, r, S, e, k⟩ := h
  obtain ⟨b, eb, e⟩ := bind_some e
  refine ⟨Z, ρ, fp, b, S, eb, fun Z1 H1 a1 => ?_⟩
  cases b with
  | true =>
    rw [if_pos rfl] at e ⊢
    exact ⟨Z1, ρ, fp, r, S.still a1, e, k.still S a1⟩
  | false =>
    rw [if_neg Bool.false_ne_true] at e ⊢
    exact ⟨Z1, ρ, fp, r, S.still a1, e, k.still S a1⟩
theorem RepO.up {K : PySem.W.Frag} {Z Z' : Zs} {H : Hp} {v : V} {o : Ob} {g : List Addr} (h : RepO K Z H v o g) (zu : ∀ b, Z b → Z' b) : RepO K Z' H v o g := by
  cases h with
  | fr d => exact .fr (d.keep zu (fun _ _ _ q => q) fun _ _ q => q)
  | lst e d => exact .lst e (d.keep zu (fun _ _ _ q => q) fun _ _ q => q)
  | ll e d =>
    refine .ll e ?_
    clear e
    induction d with
    | nil => exact .nil
    | cons e d _ ih => exact .cons e (d.keep zu (fun _ _ _ q => q) fun _ _ q => q) ih
  | acc e d hn => exact .acc e (d.keep zu (fun _ _ _ q => q) fun _ _ q => q) hn
  | dk e d => exact .dk e (d.keep zu (fun _ _ _ q => q) fun _ _ q => q)
  | dt e d => exact .dt e (d.keep zu (fun _ _ _ q => q) fun _ _ q => q)
  | scr e => exact .scr (e.imp (fun ⟨z, e⟩ => ⟨zu _ z, e⟩) id)
  | src e d => exact .src e d
theorem ER.up {K : PySem.W.Frag} {Z Z' : Zs} {H : Hp} {σ : L2.St} {ρ : Env} {fp : List Addr} (h : ER K Z H σ ρ fp) (zu : ∀ b, Z b → Z' b) : ER K Z' H σ ρ fp := by
  induction h with
  | nil => exact .nil
  | no _ ih => exact .no ih
  | one r _ ih => exact .one (r.up zu) ih
/-- a local's object is never to be written again -/
theorem ER.frz {K : PySem.W.Frag} {Z : Zs} {H : Hp} {σ : L2.St} {ρ : Env} {fp : List Addr} (h : ER K Z H σ ρ fp) : ∀ (i : Nat) {o : Ob} {d : PyData}, fp.Nodup → ρ[i]? = some (some o) → fz o = some d → ∃ (g fp' : List Addr), (∀ b ∈ g, b ∈ fp) ∧ (∀ b ∈ fp', b ∈ fp) ∧ (∀ b ∈ fp', b ∉ g) ∧ fp'.Nodup ∧ ER K (fun b => Z b ∨ b ∈ g) H σ (ρ.set i (some (.fr d))) fp' := by
  induction h with
  | nil => intro i o d nd e ed; simp at e
  | @no x σ ρ fp h ih =>
    intro i o d nd e ed
    cases i with
    | zero => simp at e
    | succ i =>
      obtain ⟨g, fp', h1, h2, h3, h4, h5⟩ := ih i nd (by simpa using e) ed
      exact ⟨g, fp', h1, h2, h3, h4, .no h5⟩
  | @one w o' g' σ ρ fp r' h ih =>
    intro i o d nd e ed
    obtain ⟨n1, n2, n3⟩ := List.nodup_append.mp nd
    cases i with
    | zero =>
      simp at e
      subst e
      exact ⟨g', fp, fun b m => List.mem_append_left _ m, fun b m => List.mem_append_right _ m, fun b m m' => n3 b m' b m rfl, n2, .one (g := []) (.fr (r'.frz ed)) (h.up fun _ z => .inl z)⟩
    | succ i =>
      obtain ⟨g, fp', h1, h2, h3, h4, h5⟩ := ih i n2 (by simpa using e) ed
      refine ⟨g, g' ++ fp', fun b m => List.mem_append_right _ (h1 b m), fun b m => ?_, fun b m => ?_, List.nodup_append.mpr ⟨n1, h4, fun a m b m' => n3 a m b (h2 b m')⟩, .one (r'.up fun _ z => .inl z) h5⟩
      · rcases List.mem_append.mp m with m | m
        · exact List.mem_append_left _ m
        · exact List.mem_append_right _ (h2 b m)
      · rcases List.mem_append.mp m with m | m
        · exact fun m' => n3 b m b (h1 b m') rfl
        · exact h3 b m
theorem s_frz (i : Nat) (h : DSs X B sts f) : DSs X B sts (fFrz i f) := PSs.imp h fun D σ H h => by
  obtain ⟨Z, ρ, fp, r, S, e, k⟩ := h
  unfold fFrz at e
  split at e
  · rename_i o eo
    obtain ⟨d, ed, e⟩ := bind_some e
    obtain ⟨g, fp', h1, h2, h3, h4, h5⟩ := S.er.frz i S.own.nd eo ed
    have a : Fr H fp Z H fp' (fun b => Z b ∨ b ∈ g) := ⟨fun _ _ q _ => q, fun _ z => .inl z, fun b o q z => z.elim .inl fun m => .inr (h1 b m), fun b o q m => h2 b m, fun q b z => z.elim (q b) fun m => let ⟨o, q, _⟩ := S.own.al b (h1 b m); ⟨o, q⟩⟩
    have S' : Stt X.K (fun b => Z b ∨ b ∈ g) H σ (ρ.set i (some (.fr d))) fp' := ⟨h5, ⟨h4, fun b m z => z.elim (S.own.nz b (h2 b m)) (h3 b m), fun b m => S.own.al b (h2 b m)⟩, a.zal S.za⟩
    exact ⟨_, _, fp', r, S', e, k.on a .rfl⟩
  · cases e
/-- for -/
theorem s_forR {R : Rel1} {tg iter : Expr} {body : List Stmt} {fi : FD} {ga : FT} {fb : FS} (hp : PassesOwn (model X.prog X.w) X.A X.env X.xe) (hc : X.calm = true) (hi : PI X tg iter (tIR X.K R fi)) (hg : PG X tg (tGR X.K R B ga)) (hb : DSs X B body fb)
    (hs : ∀ x, foldedSetIterable iter X.env x = pure x := by intro _; rfl) : DS X B (.For tg iter body [] pos) (fFor fi ga fb) := PS.imp (ps_for hp hc hi hg hb hs) fun D σ H h => by
  obtain ⟨Z, ρ, fp, r, S, e, k⟩ := h
  obtain ⟨ds, ed, e⟩ := bind_some e
  refine ⟨Z, ρ, fp, ds, S, ed, fun Z1 H1 J it a1 => ?_⟩
  have S1 := S.still a1
  have k1 := k.still S a1
  refine ⟨fun i m σ2 H2 => ∃ Z2 ρ2 fp2, m = ds.length - i ∧ i ≤ ds.length ∧ Stt X.K Z2 H2 σ2 ρ2 fp2 ∧ forL ga fb (ds.drop i) ρ2 = some r ∧ Fr H1 fp Z1 H2 fp2 Z2 ∧ KpB B σ σ2, ⟨_, Z1, ρ, fp, rfl, Nat.zero_le _, S1, e, .refl, .rfl⟩, ?_⟩
  rintro i m σ2 H2 ⟨Z2, ρ2, fp2, rfl, hi, S2, e2, a2, kb⟩
  obtain ⟨go, stop⟩ := it i Z2 H2 (a2.kp S1.own) S2.za
  by_cases hlt : i < ds.length
  · obtain ⟨g1, g2⟩ := go ds[i] (List.getElem?_eq_getElem hlt)
    rw [List.drop_eq_getElem_cons hlt] at e2
    obtain ⟨ρ3, e3, e2⟩ := bind_some (show ((ga ds[i] ρ2).bind fun ρ1 => (fb ρ1).bind fun r => match r with
      | .nx ρ2 => forL ga fb (ds.drop (i + 1)) ρ2
      | .ct ρ2 => forL ga fb (ds.drop (i + 1)) ρ2
      | .bk ρ2 => some (.nx ρ2)
      | .rt o ρ2 => some (.rt o ρ2)) = some r from e2)
    obtain ⟨r', e4, e2⟩ := bind_some e2
    refine .inr ⟨g1, fun σ' H' => ∃ Z2 ρ2 fp2, ds.length - (i + 1) = ds.length - (i + 1) ∧ i + 1 ≤ ds.length ∧ Stt X.K Z2 H' σ' ρ2 fp2 ∧ forL ga fb (ds.drop (i + 1)) ρ2 = some r ∧ Fr H1 fp Z1 H' fp2 Z2 ∧ KpB B σ σ', fun σ' H' q => ⟨_, by omega, q⟩, fun x H3 y => ?_⟩
    obtain ⟨Z3, dx, a3⟩ := g2 x H3 y
    have S3 := S2.still a3
    have a23 : Fr H1 fp Z1 H3 fp2 Z3 := a2.trans (by
      have q := a3.aside (g := fp2)
      rw [List.append_nil] at q
      exact q)
    refine ⟨Z3, ρ2, fp2, ds[i], ρ3, S3, dx, e3, fun σ4 fp4 S4 s4 k4 => ?_⟩
    have a34 : Fr H1 fp Z1 H3 fp4 Z3 := a23.less s4
    have kb4 : KpB B σ σ4 := kb.trans k4
    refine ⟨Z3, ρ3, fp4, r', S4, e4, ?_⟩
    cases r' with
    | nx ρ5 => exact fun Z5 H5 σ5 fp5 S5 a5 k5 => ⟨Z5, ρ5, fp5, rfl, hlt, S5, e2, a34.trans a5, (kb4.trans k5)⟩
    | ct ρ5 => exact fun Z5 H5 σ5 fp5 S5 a5 k5 => ⟨Z5, ρ5, fp5, rfl, hlt, S5, e2, a34.trans a5, (kb4.trans k5)⟩
    | bk ρ5 =>
      cases e2
      exact fun Z5 H5 σ5 fp5 S5 a5 k5 => k1 Z5 H5 σ5 fp5 S5 (a34.trans a5) (kb4.trans k5)
    | rt o ρ5 =>
      cases e2
      exact fun Z5 H5 σ5 fp5 v5 g5 S5 r5 o5 a5 k5 => k1 Z5 H5 σ5 fp5 v5 g5 S5 r5 o5 (a34.trans a5) (kb4.trans k5)
  · have hl : ds.length ≤ i := Nat.le_of_not_lt hlt
    rw [List.drop_eq_nil_of_le hl] at e2
    cases e2
    exact .inl ⟨stop hl, k1 Z2 H2 σ2 fp2 S2 a2 kb⟩
theorem s_for {tg iter : Expr} {body : List Stmt} {fi : FD} {ga : FT} {fb : FS} (hp : PassesOwn (model X.prog X.w) X.A X.env X.xe) (hc : X.calm = true) (hi : DI X tg iter fi) (hg : DG X B tg ga) (hb : DSs X B body fb)
    (hs : ∀ x, foldedSetIterable iter X.env x = pure x := by intro _; rfl) : DS X B (.For tg iter body [] pos) (fFor fi ga fb) := s_forR (R := DpZ X.K) hp hc hi hg hb hs
/-- while -/
theorem s_while {ce : Expr} {body : List Stmt} {fb : FS} (n : Env → Nat) (hp : PassesOwn (model X.prog X.w) X.A X.env X.xe) (hc : TD X ce c) (hb : DSs X B body fb) : DS X B (.While ce body [] pos) (fWh n c fb) := PS.imp (ps_while hp hc hb) fun D σ H h => by
  obtain ⟨Z, ρ, fp, r, S, e, k⟩ := h
  refine ⟨fun m σ2 H2 => ∃ Z2 ρ2 fp2, Stt X.K Z2 H2 σ2 ρ2 fp2 ∧ whL c fb m ρ2 = some r ∧ Fr H fp Z H2 fp2 Z2 ∧ KpB B σ σ2, ⟨n ρ, Z, ρ, fp, S, e, .refl, .rfl⟩, ?_⟩
  rintro m σ2 H2 ⟨Z2, ρ2, fp2, S2, e2, a2, kb⟩
  cases m with
  | zero => cases e2
  | succ m =>
    obtain ⟨b, eb, e2⟩ := bind_some e2
    refine ⟨Z2, ρ2, fp2, b, S2, eb, fun Z3 H3 a3 => ?_⟩
    have S3 := S2.still a3
    have a23 : Fr H fp Z H3 fp2 Z3 := a2.trans (by
      have q := a3.aside (g := fp2)
      rw [List.append_nil] at q
      exact q)
    cases b with
    | false =>
      cases e2
      exact k Z3 H3 σ2 fp2 S3 a23 kb
    | true =>
      obtain ⟨r', e4, e2⟩ := bind_some (show ((fb ρ2).bind fun r => match r with
        | .nx ρ2 => whL c fb m ρ2
        | .ct ρ2 => whL c fb m ρ2
        | .bk ρ2 => some (.nx ρ2)
        | .rt o ρ2 => some (.rt o ρ2)) = some r from e2)
      refine ⟨fun σ' H' => ∃ Z2 ρ2 fp2, Stt X.K Z2 H' σ' ρ2 fp2 ∧ whL c fb m ρ2 = some r ∧ Fr H fp Z H' fp2 Z2 ∧ KpB B σ σ', fun σ' H' q => ⟨m, Nat.lt_succ_self _, q⟩, Z3, ρ2, fp2, r', S3, e4, ?_⟩
      cases r' with
      | nx ρ5 => exact fun Z5 H5 σ5 fp5 S5 a5 k5 => ⟨Z5, ρ5, fp5, S5, e2, a23.trans a5, (kb.trans k5)⟩
      | ct ρ5 => exact fun Z5 H5 σ5 fp5 S5 a5 k5 => ⟨Z5, ρ5, fp5, S5, e2, a23.trans a5, (kb.trans k5)⟩
      | bk ρ5 =>
        cases e2
        exact fun Z5 H5 σ5 fp5 S5 a5 k5 => k Z5 H5 σ5 fp5 S5 (a23.trans a5) (kb.trans k5)
      | rt o ρ5 =>
        cases e2
        exact fun Z5 H5 σ5 fp5 v5 g5 S5 r5 o5 a5 k5 => k Z5 H5 σ5 fp5 v5 g5 S5 r5 o5 (a23.trans a5) (kb.trans k5)
end
end DL

namespace DL
open PySem PySem.Spec PyProof.Rows L2

/-! ## a local's object written in place -/
section
variable {K : PySem.W.Frag} {Z : Zs} {H : Hp}
theorem ER.split {σ : L2.St} {ρ : Env} {fp : List Addr} (h : ER K Z H σ ρ fp) : ∀ {i : Nat} {o : Ob}, ρ[i]? = some (some o) → ∃ (v : V) (g A C : List Addr), fp = A ++ (g ++ C) ∧ σ[i]? = some (some v) ∧ RepO K Z H v o g ∧
    ∀ (Z' : Zs) (H' : Hp) (o' : Ob) (g' : List Addr), (∀ w p q, RepO K Z H w p q → (∀ b ∈ q, b ∈ A ∨ b ∈ C) → RepO K Z' H' w p q) → RepO K Z' H' v o' g' → ER K Z' H' σ (ρ.set i (some o')) (A ++ (g' ++ C)) := by
  induction h with
  | nil => intro i o e; simp at e
  | @no x σ ρ fp h ih =>
    intro i o e
    cases i with
    | zero => simp at e
    | succ i =>
      obtain ⟨v, g, A, C, h1, h2, h3, h4⟩ := ih (i := i) (by simpa using e)
      exact ⟨v, g, A, C, h1, by simpa using h2, h3, fun Z' H' o' g' k r => .no (h4 Z' H' o' g' k r)⟩
  | @one w o' g' σ ρ fp r' h ih =>
    intro i o e
    cases i with
    | zero =>
      simp at e
      subst e
      refine ⟨w, g', [], fp, rfl, rfl, r', fun Z' H' o' g'' k r => ?_⟩
      show ER K Z' H' (some w :: σ) (some o' :: ρ) (g'' ++ fp)
      refine .one r ?_
      have all : ∀ {σ ρ f}, ER K Z H σ ρ f → (∀ b ∈ f, b ∈ fp) → ER K Z' H' σ ρ f := by
        intro σ ρ f h
        induction h with
        | nil => intro _; exact .nil
        | no _ ih => intro m; exact .no (ih m)
        | one r _ ih => intro m; exact .one (k _ _ _ r fun b q => .inr (m b (List.mem_append_left _ q))) (ih fun b q => m b (List.mem_append_right _ q))
      exact all h fun b m => m
    | succ i =>
      obtain ⟨v, g, A, C, h1, h2, h3, h4⟩ := ih (i := i) (by simpa using e)
      refine ⟨v, g, g' ++ A, C, by rw [h1, List.append_assoc], by simpa using h2, h3, fun Z' H' o'' g'' k r => ?_⟩
      rw [List.append_assoc]
      exact .one (k _ _ _ r' fun b q => .inl (List.mem_append_left _ q)) (h4 Z' H' o'' g'' (fun w p q r m => k w p q r fun b q => (m b q).imp (List.mem_append_right _) id) r)
/-- THE RULE for a write into slot i's own object -/
theorem Stt.write {σ : L2.St} {ρ : Env} {fp : List Addr} (S : Stt K Z H σ ρ fp) {i : Nat} {o : Ob} (e : ρ[i]? = some (some o)) : ∃ (v : V) (g : List Addr), σ[i]? = some (some v) ∧ RepO K Z H v o g ∧ Own Z H g ∧
    ∀ (Z' : Zs) (H' : Hp) (o' : Ob) (g' gx : List Addr), Fr H g Z H' (gx ++ g') Z' → RepO K Z' H' v o' g' → Own Z' H' (gx ++ g') → ∃ fp', Stt K Z' H' σ (ρ.set i (some o')) fp' ∧ Own Z' H' (gx ++ fp') ∧ Fr H fp Z H' (gx ++ fp') Z' := by
  obtain ⟨v, g, A, C, rfl, h2, h3, h4⟩ := S.er.split e
  have ndp := List.nodup_append.mp S.own.nd
  have ndg := List.nodup_append.mp ndp.2.1
  have og : Own Z H g := S.own.right.left
  have djA : ∀ b ∈ A, b ∉ g := fun b m m' => ndp.2.2 b m b (List.mem_append_left _ m') rfl
  have djC : ∀ b ∈ C, b ∉ g := fun b m m' => ndg.2.2 b m' b m rfl
  refine ⟨v, g, h2, h3, og, fun Z' H' o' g' gx a r ow => ⟨A ++ (g' ++ C), ?_⟩⟩
  have er := h4 Z' H' o' g' (fun w p q r m => r.keep a og.nt (fun b z => (m b z).elim (djA b) (djC b)) og.nzf) r
  -- all in one
  have oAC : Own Z H ((A ++ C) ++ g) := by
    refine ⟨List.nodup_append.mpr ⟨List.nodup_append.mpr ⟨ndp.1, ndg.2.1, fun x m y n => ndp.2.2 x m y (List.mem_append_right _ n)⟩, ndg.1, fun x m y n q => ?_⟩, fun x m => S.own.nz x ?_, fun x m => S.own.al x ?_⟩
    · subst q
      exact (List.mem_append.mp m).elim (fun m => djA x m n) fun m => djC x m n
    all_goals
      rcases List.mem_append.mp m with m | m
      · rcases List.mem_append.mp m with m | m
        · exact List.mem_append_left _ m
        · exact List.mem_append_right _ (List.mem_append_right _ m)
      · exact List.mem_append_right _ (List.mem_append_left _ m)
  have o2 : Own Z' H' ((A ++ C) ++ (gx ++ g')) := oAC.aside a ow
  have perm : ∀ b, b ∈ gx ++ (A ++ (g' ++ C)) ↔ b ∈ (A ++ C) ++ (gx ++ g') := fun b => by
    simp only [List.mem_append]
    constructor
    · rintro (h | h | h | h)
      · exact .inr (.inl h)
      · exact .inl (.inl h)
      · exact .inr (.inr h)
      · exact .inl (.inr h)
    · rintro ((h | h) | h | h)
      · exact .inr (.inl h)
      · exact .inr (.inr (.inr h))
      · exact .inl h
      · exact .inr (.inr (.inl h))
  have nd2 : (gx ++ (A ++ (g' ++ C))).Nodup := by
    have p : (gx ++ (A ++ (g' ++ C))).Perm ((A ++ C) ++ (gx ++ g')) := by
      have p1 : (g' ++ C).Perm (C ++ g') := List.perm_append_comm
      have p2 : (A ++ (g' ++ C)).Perm (A ++ (C ++ g')) := p1.append_left A
      have p3 : (gx ++ (A ++ (g' ++ C))).Perm (gx ++ (A ++ (C ++ g'))) := p2.append_left gx
      have p4 : (gx ++ (A ++ (C ++ g'))).Perm ((A ++ C) ++ (gx ++ g')) := by
        rw [← List.append_assoc A C g', ← List.append_assoc gx (A ++ C) g', ← List.append_assoc (A ++ C) gx g']
        exact List.perm_append_comm.append_right g'
      exact p3.trans p4
    exact p.nodup_iff.mpr o2.nd
  have o3 : Own Z' H' (gx ++ (A ++ (g' ++ C))) := o2.sub (fun b m => (perm b).mp m) nd2
  refine ⟨⟨er, o3.right, a.zal S.za⟩, o3, ?_⟩
  have f1 : Fr H ((A ++ C) ++ g) Z H' ((A ++ C) ++ (gx ++ g')) Z' := a.aside
  exact (f1.more fun b m => by
    simp only [List.mem_append] at m ⊢
    rcases m with (m | m) | m
    · exact .inl m
    · exact .inr (.inr m)
    · exact .inr (.inl m)).less fun b m => (perm b).mp m
theorem Own.of_al {g : List Addr} {Z' : Zs} {H' : Hp} (nd : g.Nodup) (nz : ∀ a ∈ g, ¬ Z' a) (al : ∀ a ∈ g, ∃ o, H' a = some o ∧ Mt o) : Own Z' H' g := ⟨nd, nz, al⟩
/-- one object is written -/
theorem Fr.upd1 {a : Addr} {o : HO} {g : List Addr} (ha : ∃ o, H a = some o) (hg : a ∈ g) : Fr H g Z (upd H a o) g Z where
  same := fun b u e n => by rw [upd_ne (fun q : b = a => n (by rw [q]; exact hg))]; exact e
  zup := fun _ z => z
  znew := fun _ _ _ z => .inl z
  new := fun _ _ _ m => m
  zal := fun q b z => by
    by_cases e : b = a
    · subst e; exact ⟨_, upd_same⟩
    · rw [upd_ne e]; exact q b z
theorem Own.upd1 {a : Addr} {o : HO} {g : List Addr} (h : Own Z H g) (m : Mt o) : Own Z (upd H a o) g := ⟨h.nd, h.nz, fun b mb => by
  by_cases e : b = a
  · subst e; exact ⟨_, upd_same, m⟩
  · rw [upd_ne e]; exact h.al b mb⟩
theorem DpZ.upd {a : Addr} {o : HO} {v : V} {d : PyData} (h : DpZ K Z H v d) (nz : ¬ Z a) (nt : ∀ xs, H a ≠ some (.tup xs)) : DpZ K Z (upd H a o) v d := h.keep (fun _ z => z) (fun b u z e => by rw [upd_ne (fun q : b = a => nz (by rw [← q]; exact z))]; exact e) fun b xs e => by rw [upd_ne (fun q : b = a => nt xs (by rw [← q]; exact e))]; exact e
theorem DpZs.upd {a : Addr} {o : HO} {v : List V} {d : List PyData} (h : DpZs K Z H v d) (nz : ¬ Z a) (nt : ∀ xs, H a ≠ some (.tup xs)) : DpZs K Z (upd H a o) v d := h.keep (fun _ z => z) (fun b u z e => by rw [upd_ne (fun q : b = a => nz (by rw [← q]; exact z))]; exact e) fun b xs e => by rw [upd_ne (fun q : b = a => nt xs (by rw [← q]; exact e))]; exact e
end
def lt24 (n : Nat) : Bool := Nat.blt n 16777216
theorem lt24_ok {n : Nat} (h : lt24 n = true) : n < sizeLine := by rw [sizeLine_eq]; exact Nat.le_of_ble_eq_true h
def fApp (i : Nat) (f : F1) : FS := fun ρ => (f ρ).bind fun o => (fz o).bind fun d => match ρ[i]? with
  | some (some (.lst l)) => if lt24 l.length then some (.nx (ρ.set i (some (.lst (l ++ [d]))))) else none
  | some (some (.acc n r)) => if lt24 n then some (.nx (ρ.set i (some (.acc (n + 1) (d :: r))))) else none
  | _ => none
def fExt (i : Nat) (f : F1) : FS := fun ρ => (f ρ).bind fun o => (asLst o).bind fun m => match ρ[i]? with
  | some (some (.lst l)) => if short (l ++ m) then some (.nx (ρ.set i (some (.lst (l ++ m))))) else none
  | some (some (.acc n r)) => if lt24 (n + m.length) then some (.nx (ρ.set i (some (.acc (n + m.length) (m.reverse ++ r))))) else none
  | _ => none
def ixN' (n : Nat) (i : Int) : Option Nat := match i with
  | .ofNat k => if Nat.blt k n then some k else none
  | .negSucc k => if Nat.blt k n then some (n - 1 - k) else none
theorem ixN'_eq {n : Nat} {i : Int} {j : Nat} (h : ixN' n i = some j) : ixN n i = some j := by
  cases i with
  | ofNat k =>
    have h : (if Nat.blt k n = true then some k else none) = some j := h
    split at h
    · rename_i c
      have c' : k < n := Nat.le_of_ble_eq_true c
      unfold ixN
      cases h
      rw [if_pos (show (0 : Int) ≤ Int.ofNat j from Int.natCast_nonneg j), if_pos (show Int.ofNat j < (n : Int) from Int.ofNat_lt.mpr c')]
      rfl
    · cases h
  | negSucc k =>
    have h : (if Nat.blt k n = true then some (n - 1 - k) else none) = some j := h
    split at h
    · rename_i c
      have c' : k < n := Nat.le_of_ble_eq_true c
      unfold ixN
      cases h
      rw [if_neg (by omega), if_pos (by omega)]
      congr 1
      omega
    · cases h
/-- x[k] = e, x a list of the local i -/
def fSetIx (i : Nat) (fk f : F1) : FS := fun ρ => (f ρ).bind fun o => (fz o).bind fun d => match ρ[i]? with
  | some (some (.lst l)) => (fk ρ).bind fun y => (asI y).bind fun k => (ixN' l.length k).bind fun j => some (.nx (ρ.set i (some (.lst (l.set j d)))))
  | _ => none
/-- x[k].append(e), x a list of lists of the local i -/
def fApp2 (i : Nat) (fk f : F1) : FS := fun ρ => match ρ[i]? with
  | some (some (.ll L)) => (fk ρ).bind fun y => (asI y).bind fun k => (ixN' L.length k).bind fun j => (L[j]?).bind fun l => (f ρ).bind fun o => (fz o).bind fun d => if lt24 l.length then some (.nx (ρ.set i (some (.ll (L.set j (l ++ [d])))))) else none
  | _ => none
section
variable {X : Cx} {B : List Nat} {pos apos cpos npos : Pos} {e ke : Expr} {f fk : F1} {x : Str}
theorem lst_of {K : PySem.W.Frag} {Z : Zs} {H : Hp} {v : V} {l : List PyData} {g : List Addr} (r : RepO K Z H v (.lst l) g) : ∃ a vs, v = .ref a ∧ g = [a] ∧ H a = some (.lst vs) ∧ DpZs K Z H vs l := by
  cases r with
  | lst h t => exact ⟨_, _, rfl, rfl, h, t⟩
theorem acc_of {K : PySem.W.Frag} {Z : Zs} {H : Hp} {v : V} {n : Nat} {r : List PyData} {g : List Addr} (q : RepO K Z H v (.acc n r) g) : ∃ a vs, v = .ref a ∧ g = [a] ∧ H a = some (.lst vs) ∧ DpZs K Z H vs r.reverse ∧ n = r.length := by
  cases q with
  | acc h t hn => exact ⟨_, _, rfl, rfl, h, t, hn⟩
theorem s_append (i : Nat) (he : DP X e f) (hN : X.N[i]? = some x := by rfl) (hv : Vis X.env.scope x := by first | exact Or.inl rfl | exact Or.inr (Or.inl rfl) | exact Or.inr (Or.inr rfl)) (hd : (x == ("__debug__" : Str)) = false := by decide)
    (hcd : (x == ("__classdict__" : Str)) = false := by decide) (hfew : ((backTo cpos (starEach [e] X.env)).all (fun x => !x.1) && (backToKw cpos (keywordEach [] X.env)).all (fun x => x.1.isSome) && decide (([e] : List Expr).length + ([] : List Keyword).length + (if ([] : List Keyword).isEmpty then 0 else 1) < 30)) = true := by rfl) (hln : (apos.endLine == cpos.line) = true := by rfl) (hs : starEach [e] X.env = (false, eval e X.env) :: starEach [] X.env := by rfl) (hq : swapsWith (.Call (.Attribute (.Name x npos) "append" apos) [e] [] cpos) none pos.line X.env = pure false := by rfl) :
    DS X B (.Expr (.Call (.Attribute (.Name x npos) "append" apos) [e] [] cpos) pos) (fApp i f) := PS.imp (ps_expr (pe_bm PySem.F.plainAttrs_list PySem.F.slot_list_append PySem.F.type_list_append mt_append (pe_var hN hv hd hcd) (pa_cons he pa_nil hs) (hfew := hfew) (hline := hln) (hs := hs)) hq) fun D σ H h => by
  obtain ⟨Z, ρ, fp, r, S, e, k⟩ := h
  obtain ⟨o, eo, e⟩ := bind_some e
  obtain ⟨d, ed, e⟩ := bind_some e
  split at e
  · rename_i l el
    split at e
    · rename_i c
      cases e
      obtain ⟨v, g, h1, h2, _, _⟩ := S.write el
      obtain ⟨a, vs, rfl, rfl, h3, h4⟩ := lst_of h2
      refine ⟨.ref a, h1, .inl ⟨rfl, vs, .of h3⟩, Z, ρ, fp, o, S, eo, fun Z1 H1 v1 g1 r1 o1 a1 => ?_⟩
      have a1' := a1.frz0 o1
      have S1 := S.still a1'
      obtain ⟨v', g', h1', h2', ow, wr⟩ := S1.write el
      rw [h1] at h1'
      cases h1'
      obtain ⟨a', vs', q, rfl, h3', h4'⟩ := lst_of h2'
      cases q
      have d1 := r1.frz ed
      refine ⟨a, vs', v1, rfl, rfl, h3', by rw [h4'.length]; exact lt24_ok c, ?_⟩
      have nz : ¬ (Z1 a ∨ a ∈ g1) := ow.nz a List.mem_cons_self
      have nt : ∀ xs, H1 a ≠ some (.tup xs) := fun xs q => by rw [h3'] at q; cases q
      obtain ⟨fp', S2, _, f2⟩ := wr _ (upd H1 a (.lst (vs' ++ [v1]))) (.lst (l ++ [d])) [a] [] (Fr.upd1 ⟨_, h3'⟩ List.mem_cons_self) (.lst upd_same ((h4'.upd nz nt).append (.cons (d1.upd nz nt) .nil))) (ow.upd1 trivial)
      exact k _ _ σ fp' S2 ((by
        have q := a1'.aside (g := fp)
        rw [List.append_nil] at q
        exact q : Fr H fp Z H1 fp _).trans f2) .rfl
    · cases e
  · rename_i n r el
    split at e
    · rename_i c
      cases e
      obtain ⟨v, g, h1, h2, _, _⟩ := S.write el
      obtain ⟨a, vs, rfl, rfl, h3, _, _⟩ := acc_of h2
      refine ⟨.ref a, h1, .inl ⟨rfl, vs, .of h3⟩, Z, ρ, fp, o, S, eo, fun Z1 H1 v1 g1 r1 o1 a1 => ?_⟩
      have a1' := a1.frz0 o1
      have S1 := S.still a1'
      obtain ⟨v', g', h1', h2', ow, wr⟩ := S1.write el
      rw [h1] at h1'
      cases h1'
      obtain ⟨a', vs', q, rfl, h3', h4', hn⟩ := acc_of h2'
      cases q
      have d1 := r1.frz ed
      have hlen : vs'.length < sizeLine := by
        have q := h4'.length
        rw [List.length_reverse, ← hn] at q
        rw [q]; exact lt24_ok c
      refine ⟨a, vs', v1, rfl, rfl, h3', hlen, ?_⟩
      have nz : ¬ (Z1 a ∨ a ∈ g1) := ow.nz a List.mem_cons_self
      have nt : ∀ xs, H1 a ≠ some (.tup xs) := fun xs q => by rw [h3'] at q; cases q
      have new := (h4'.upd (o := .lst (vs' ++ [v1])) nz nt).append (.cons (d1.upd nz nt) .nil)
      rw [← List.reverse_cons] at new
      obtain ⟨fp', S2, _, f2⟩ := wr _ (upd H1 a (.lst (vs' ++ [v1]))) (.acc (n + 1) (d :: r)) [a] [] (Fr.upd1 ⟨_, h3'⟩ List.mem_cons_self) (.acc upd_same new (by rw [hn]; rfl)) (ow.upd1 trivial)
      exact k _ _ σ fp' S2 ((by
        have q := a1'.aside (g := fp)
        rw [List.append_nil] at q
        exact q : Fr H fp Z H1 fp _).trans f2) .rfl
    · cases e
  · cases e
theorem s_extend (i : Nat) (he : DP X e f) (hN : X.N[i]? = some x := by rfl) (hv : Vis X.env.scope x := by first | exact Or.inl rfl | exact Or.inr (Or.inl rfl) | exact Or.inr (Or.inr rfl)) (hd : (x == ("__debug__" : Str)) = false := by decide)
    (hcd : (x == ("__classdict__" : Str)) = false := by decide) (hfew : ((backTo cpos (starEach [e] X.env)).all (fun x => !x.1) && (backToKw cpos (keywordEach [] X.env)).all (fun x => x.1.isSome) && decide (([e] : List Expr).length + ([] : List Keyword).length + (if ([] : List Keyword).isEmpty then 0 else 1) < 30)) = true := by rfl) (hln : (apos.endLine == cpos.line) = true := by rfl) (hs : starEach [e] X.env = (false, eval e X.env) :: starEach [] X.env := by rfl) (hq : swapsWith (.Call (.Attribute (.Name x npos) "extend" apos) [e] [] cpos) none pos.line X.env = pure false := by rfl) :
    DS X B (.Expr (.Call (.Attribute (.Name x npos) "extend" apos) [e] [] cpos) pos) (fExt i f) := PS.imp (ps_expr (pe_bm PySem.F.plainAttrs_list PySem.F.slot_list_extend PySem.F.type_list_extend mt_extend (pe_var hN hv hd hcd) (pa_cons he pa_nil hs) (hfew := hfew) (hline := hln) (hs := hs)) hq) fun D σ H h => by
  obtain ⟨Z, ρ, fp, r, S, e, k⟩ := h
  obtain ⟨o, eo, e⟩ := bind_some e
  obtain ⟨m, em, e⟩ := bind_some e
  split at e
  · rename_i l el
    split at e
    · rename_i c
      cases e
      obtain ⟨v, g, h1, h2, _, _⟩ := S.write el
      obtain ⟨a, vs, rfl, rfl, h3, h4⟩ := lst_of h2
      refine ⟨.ref a, h1, .inl ⟨rfl, vs, .of h3⟩, Z, ρ, fp, o, S, eo, fun Z1 H1 v1 g1 r1 o1 a1 => ?_⟩
      have a1' : Fr H [] Z H1 [] Z1 := a1.less fun _ m => (nomatch m)
      have S1 := S.still a1'
      obtain ⟨v', g', h1', h2', ow, wr⟩ := S1.write el
      rw [h1] at h1'
      cases h1'
      obtain ⟨a', vs', q, rfl, h3', h4'⟩ := lst_of h2'
      cases q
      obtain ⟨b, ws, rfl, h5, h6⟩ := asLst_rep r1 em
      have hsz := short_ok c
      rw [List.length_append] at hsz
      refine ⟨a, b, vs', ws, rfl, rfl, h3', h5, by rw [h4'.length, h6.length]; exact hsz, ?_⟩
      have nz : ¬ Z1 a := ow.nz a List.mem_cons_self
      have nt : ∀ xs, H1 a ≠ some (.tup xs) := fun xs q => by rw [h3'] at q; cases q
      obtain ⟨fp', S2, _, f2⟩ := wr _ (upd H1 a (.lst (vs' ++ ws))) (.lst (l ++ m)) [a] [] (Fr.upd1 ⟨_, h3'⟩ List.mem_cons_self) (.lst upd_same ((h4'.upd nz nt).append (h6.upd nz nt))) (ow.upd1 trivial)
      exact k _ _ σ fp' S2 ((by
        have q := a1'.aside (g := fp)
        rw [List.append_nil] at q
        exact q : Fr H fp Z H1 fp _).trans f2) .rfl
    · cases e
  · rename_i n r el
    split at e
    · rename_i c
      cases e
      obtain ⟨v, g, h1, h2, _, _⟩ := S.write el
      obtain ⟨a, vs, rfl, rfl, h3, _, _⟩ := acc_of h2
      refine ⟨.ref a, h1, .inl ⟨rfl, vs, .of h3⟩, Z, ρ, fp, o, S, eo, fun Z1 H1 v1 g1 r1 o1 a1 => ?_⟩
      have a1' : Fr H [] Z H1 [] Z1 := a1.less fun _ m => (nomatch m)
      have S1 := S.still a1'
      obtain ⟨v', g', h1', h2', ow, wr⟩ := S1.write el
      rw [h1] at h1'
      cases h1'
      obtain ⟨a', vs', q, rfl, h3', h4', hn⟩ := acc_of h2'
      cases q
      obtain ⟨b, ws, rfl, h5, h6⟩ := asLst_rep r1 em
      have hlen : vs'.length = n := by
        have q := h4'.length
        rw [List.length_reverse, ← hn] at q
        exact q
      have hsz := Nat.le_of_lt (lt24_ok c)
      refine ⟨a, b, vs', ws, rfl, rfl, h3', h5, by rw [hlen, h6.length]; exact hsz, ?_⟩
      have nz : ¬ Z1 a := ow.nz a List.mem_cons_self
      have nt : ∀ xs, H1 a ≠ some (.tup xs) := fun xs q => by rw [h3'] at q; cases q
      have new := (h4'.upd (o := .lst (vs' ++ ws)) nz nt).append (h6.upd nz nt)
      have er : r.reverse ++ m = (m.reverse ++ r).reverse := by rw [List.reverse_append, List.reverse_reverse]
      rw [er] at new
      obtain ⟨fp', S2, _, f2⟩ := wr _ (upd H1 a (.lst (vs' ++ ws))) (.acc (n + m.length) (m.reverse ++ r)) [a] [] (Fr.upd1 ⟨_, h3'⟩ List.mem_cons_self) (.acc upd_same new (by rw [hn, List.length_append, List.length_reverse]; omega)) (ow.upd1 trivial)
      exact k _ _ σ fp' S2 ((by
        have q := a1'.aside (g := fp)
        rw [List.append_nil] at q
        exact q : Fr H fp Z H1 fp _).trans f2) .rfl
    · cases e
  · cases e
theorem tail_fr {H H1 : Hp} {Z Z1 : Zs} {fp : List Addr} (a1 : Fr H [] Z H1 [] Z1) : Fr H fp Z H1 fp Z1 := by
  have q := a1.aside (g := fp)
  rw [List.append_nil] at q
  exact q
theorem s_setix (i : Nat) {ipos : Pos} (he : DP X e f) (hk : PR X ke fk) (hN : X.N[i]? = some x := by rfl) (hv : Vis X.env.scope x := by first | exact Or.inl rfl | exact Or.inr (Or.inl rfl) | exact Or.inr (Or.inr rfl)) (hd : (x == ("__debug__" : Str)) = false := by decide)
    (hcd : (x == ("__classdict__" : Str)) = false := by decide) (ha : ∀ v, assign (.Subscript (.Name x npos) ke ipos) X.env v = (do
      let ov ← holding [v] (eval (.Name x npos) X.env)
      let iv ← holding [v, ov] (eval ke X.env)
      standAt ipos
      holding [v, ov, iv] (setItem ov iv v)
      release [v, ov, iv] []) := by intro _; rfl) (hs : swapsWithSole [.Subscript (.Name x npos) ke ipos] e pos.line X.env = pure false := by rfl) (hw : swappedStores [.Subscript (.Name x npos) ke ipos] e X.env = pure none := by rfl)
    (h1 : (assignEach [.Subscript (.Name x npos) ke ipos] X.env).map (·.2) = [assign (.Subscript (.Name x npos) ke ipos) X.env] := by rfl) :
    DS X B (.Assign [.Subscript (.Name x npos) ke ipos] e pos) (fSetIx i fk f) := PS.imp (ps_asg he (pg_sub (pe_var hN hv hd hcd) hk set_list ha) hs hw h1) fun D σ H h => by
  obtain ⟨Z, ρ, fp, r, S, e, k⟩ := h
  obtain ⟨o, eo, e⟩ := bind_some e
  obtain ⟨d, ed, e⟩ := bind_some e
  split at e
  · rename_i l el
    obtain ⟨y, ey, e⟩ := bind_some e
    obtain ⟨kk, ek, e⟩ := bind_some e
    obtain ⟨j, ej, e⟩ := bind_some e
    cases e
    refine ⟨Z, ρ, fp, o, S, eo, fun Z1 H1 v1 g1 r1 o1 a1 => ?_⟩
    have a1' := a1.frz0 o1
    have S1 := S.still a1'
    have d1 := r1.frz ed
    obtain ⟨v, g, h1, h2, _, _⟩ := S1.write el
    refine ⟨v, h1, _, ρ, fp, y, S1, ey, fun Z2 H2 v2 g2 r2 a2 => ?_⟩
    have S2 := S1.still a2
    obtain ⟨v', g', h1', h2', ow, wr⟩ := S2.write el
    rw [h1] at h1'
    cases h1'
    obtain ⟨a, vs, rfl, rfl, h3, h4⟩ := lst_of h2'
    refine ⟨a, vs, kk, j, rfl, asI_rep r2 ek, h3, by rw [h4.length]; exact ixN'_eq ej, ?_⟩
    have nz : ¬ Z2 a := ow.nz a List.mem_cons_self
    have nt : ∀ xs, H2 a ≠ some (.tup xs) := fun xs q => by rw [h3] at q; cases q
    obtain ⟨fp', S3, _, f3⟩ := wr _ (upd H2 a (.lst (vs.set j v1))) (.lst (l.set j d)) [a] [] (Fr.upd1 ⟨_, h3⟩ List.mem_cons_self) (.lst upd_same ((h4.upd nz nt).set j ((d1.still a2).upd nz nt))) (ow.upd1 trivial)
    exact k _ _ σ fp' S3 ((tail_fr (a1'.trans a2)).trans f3) .rfl
  · cases e
theorem LLs.at {K : PySem.W.Frag} {Z : Zs} {H : Hp} : ∀ {bs : List Addr} {ls : List (List PyData)} {j : Nat} {l : List PyData}, LLs K Z H bs ls → ls[j]? = some l → ∃ b vs, bs[j]? = some b ∧ H b = some (.lst vs) ∧ DpZs K Z H vs l
  | _, _, _, _, .nil, e => by simp at e
  | _, _, 0, _, .cons h t _, e => by simp at e; subst e; exact ⟨_, _, rfl, h, t⟩
  | _, _, j + 1, l, .cons _ _ t, e => by
    obtain ⟨b, vs, h1, h2, h3⟩ := LLs.at (j := j) (l := l) t (by simpa using e)
    exact ⟨b, vs, by simpa using h1, h2, h3⟩
theorem LLs.upd {K : PySem.W.Frag} {Z : Zs} {H : Hp} {b : Addr} {vs : List V} {l : List PyData} (nz : ¬ Z b) (nt : ∀ xs, H b ≠ some (.tup xs)) (d : DpZs K Z (upd H b (.lst vs)) vs l) : ∀ {bs : List Addr} {ls : List (List PyData)} {j : Nat}, LLs K Z H bs ls → bs.Nodup → bs[j]? = some b → LLs K Z (L2.upd H b (.lst vs)) bs (ls.set j l)
  | _, _, _, .nil, _, e => by simp at e
  | b' :: bs, l' :: ls, 0, .cons h t r, nd, e => by
    simp at e
    subst e
    rw [List.nodup_cons] at nd
    refine .cons upd_same d ?_
    have all : ∀ {bs ls}, LLs K Z H bs ls → b' ∉ bs → LLs K Z (L2.upd H b' (.lst vs)) bs ls := by
      intro bs ls h
      induction h with
      | nil => intro _; exact .nil
      | cons h t _ ih =>
        intro n
        rw [List.mem_cons, not_or] at n
        exact .cons (by rw [upd_ne (fun q => n.1 q.symm)]; exact h) (t.upd nz nt) (ih n.2)
    exact all r nd.1
  | b' :: bs, l' :: ls, j + 1, .cons h t r, nd, e => by
    rw [List.nodup_cons] at nd
    have e : bs[j]? = some b := by simpa using e
    have ne : b' ≠ b := fun q => nd.1 (q ▸ List.mem_of_getElem? e)
    exact .cons (by rw [upd_ne ne]; exact h) (t.upd nz nt) (LLs.upd nz nt d r nd.2 e)
theorem ll_of {K : PySem.W.Frag} {Z : Zs} {H : Hp} {v : V} {l : List (List PyData)} {g : List Addr} (r : RepO K Z H v (.ll l) g) : ∃ a bs, v = .ref a ∧ g = a :: bs ∧ H a = some (.lst (bs.map V.ref)) ∧ LLs K Z H bs l := by
  cases r with
  | ll h t => exact ⟨_, _, rfl, rfl, h, t⟩
theorem s_app2 (i : Nat) {ipos : Pos} (hk : PR X ke fk) (he : DP X e f) (hN : X.N[i]? = some x := by rfl) (hv : Vis X.env.scope x := by first | exact Or.inl rfl | exact Or.inr (Or.inl rfl) | exact Or.inr (Or.inr rfl)) (hd : (x == ("__debug__" : Str)) = false := by decide)
    (hcd : (x == ("__classdict__" : Str)) = false := by decide) (hpl : PlainIx ke := by intro _ _; rfl) (hfew : ((backTo cpos (starEach [e] X.env)).all (fun x => !x.1) && (backToKw cpos (keywordEach [] X.env)).all (fun x => x.1.isSome) && decide (([e] : List Expr).length + ([] : List Keyword).length + (if ([] : List Keyword).isEmpty then 0 else 1) < 30)) = true := by rfl) (hln : (apos.endLine == cpos.line) = true := by rfl) (hs : starEach [e] X.env = (false, eval e X.env) :: starEach [] X.env := by rfl) (hq : swapsWith (.Call (.Attribute (.Subscript (.Name x npos) ke ipos) "append" apos) [e] [] cpos) none pos.line X.env = pure false := by rfl) :
    DS X B (.Expr (.Call (.Attribute (.Subscript (.Name x npos) ke ipos) "append" apos) [e] [] cpos) pos) (fApp2 i fk f) := PS.imp (ps_expr (pe_bm PySem.F.plainAttrs_list PySem.F.slot_list_append PySem.F.type_list_append mt_append (pe_ix ix_list (pe_var hN hv hd hcd) hk hpl) (pa_cons he pa_nil hs) (hfew := hfew) (hline := hln) (hs := hs)) hq) fun D σ H h => by
  obtain ⟨Z, ρ, fp, r, S, e, k⟩ := h
  unfold fApp2 at e
  split at e
  · rename_i L el
    obtain ⟨y, ey, e⟩ := bind_some e
    obtain ⟨kk, ek, e⟩ := bind_some e
    obtain ⟨j, ej, e⟩ := bind_some e
    obtain ⟨l, ejl, e⟩ := bind_some e
    obtain ⟨o, eo, e⟩ := bind_some e
    obtain ⟨d, ed, e⟩ := bind_some e
    split at e
    · rename_i c
      cases e
      obtain ⟨v, g, h1, h2, _, _⟩ := S.write el
      refine ⟨v, h1, Z, ρ, fp, y, S, ey, fun Z1 H1 v1 g1 r1 a1 => ?_⟩
      have S1 := S.still a1
      obtain ⟨v', g', h1', h2', ow, wr⟩ := S1.write el
      rw [h1] at h1'
      cases h1'
      obtain ⟨a, bs, rfl, rfl, h3, h4⟩ := ll_of h2'
      obtain ⟨b, vs, hb, hbv, hbd⟩ := h4.at ejl
      have hlen : bs.length = L.length := h4.length
      have hat : atI (bs.map V.ref) kk = some (.ref b) := by
        unfold atI
        rw [List.length_map, hlen, ixN'_eq ej]
        show (bs.map V.ref)[j]? = _
        rw [List.getElem?_map, hb]
        rfl
      refine ⟨a, bs.map V.ref, kk, .ref b, rfl, asI_rep r1 ek, .of h3, hat, .inl ⟨rfl, vs, .of hbv⟩, Z1, ρ, fp, o, S1, eo, fun Z2 H2 v2 g2 r2 o2 a2 => ?_⟩
      have a2' := a2.frz0 o2
      have S2 := S1.still a2'
      have d2 := r2.frz ed
      obtain ⟨v', g', h1'', h2'', ow2, wr2⟩ := S2.write el
      rw [h1] at h1''
      cases h1''
      obtain ⟨a', bs', q, rfl, h5, h6⟩ := ll_of h2''
      cases q
      -- the same inner lists
      have e5 : H2 a = some (.lst (bs.map V.ref)) := a2'.same _ _ h3 (by simp)
      rw [h5] at e5
      have e6 : bs' = bs := by
        have : bs'.map V.ref = bs.map V.ref := by
          have q := Option.some.inj e5
          injection q
        exact (List.map_inj_right fun x y q => by injection q).mp this
      subst e6
      obtain ⟨b2, vs2, hb2, hbv2, hbd2⟩ := h6.at ejl
      rw [hb] at hb2
      cases hb2
      refine ⟨b, vs2, v2, rfl, rfl, hbv2, by rw [hbd2.length]; exact lt24_ok c, ?_⟩
      have mb : b ∈ bs' := List.mem_of_getElem? hb
      have ndb := List.nodup_cons.mp ow2.nd
      have nab : a ≠ b := fun q => ndb.1 (q ▸ mb)
      have nz : ¬ (Z2 b ∨ b ∈ g2) := ow2.nz b (List.mem_cons_of_mem _ mb)
      have nt : ∀ xs, H2 b ≠ some (.tup xs) := fun xs q => by rw [hbv2] at q; cases q
      obtain ⟨fp', S3, _, f3⟩ := wr2 _ (upd H2 b (.lst (vs2 ++ [v2]))) (.ll (L.set j (l ++ [d]))) (a :: bs') [] (Fr.upd1 ⟨_, hbv2⟩ (List.mem_cons_of_mem _ mb))
        (.ll (by rw [upd_ne nab]; exact h5) (h6.upd nz nt ((hbd2.upd nz nt).append (.cons (d2.upd nz nt) .nil)) ndb.2 hb)) (ow2.upd1 trivial)
      exact k _ _ σ fp' S3 ((tail_fr (a1.trans a2')).trans f3) .rfl
    · cases e
  · cases e
end
end DL

namespace DL
open PySem PySem.Spec PyProof.Rows L2

/-! ## list comprehensions, pure -/
def wipeE (ρ : Env) : List Nat → Env
  | [] => ρ
  | v :: vs => (wipeE ρ vs).set v none
def lcL (ga : FT) (tt : FB) (te : F1) : List PyData → Env → Option (List PyData)
  | [], _ => some []
  | d :: ds, ρ => (ga d ρ).bind fun ρ1 => (tt ρ1).bind fun b => if b then (te ρ1).bind fun o => (fz o).bind fun x => (lcL ga tt te ds ρ).bind fun r => some (x :: r) else lcL ga tt te ds ρ
def offs (n : Nat) (vs : List Nat) : List Nat := (List.range n).filter fun i => !vs.contains i
def oLc (n : Nat) (vs : List Nat) (fi : FD) (ga : FT) (tt : FB) (te : F1) : F1 := fun ρ => if Nat.beq ρ.length n then (fi ρ).bind fun ds => if short ds then (lcL ga tt te ds (wipeE ρ vs)).bind fun l => some (.lst l) else none else none
def bYes : FB := fun _ => some true
abbrev TDs (X : Cx) (ifs : List Expr) (f : FB) : Prop := PTs X ifs (tT X.K f)
section
variable {K : PySem.W.Frag} {Z : Zs} {H : Hp}
theorem ER.unset {σ : L2.St} {ρ : Env} {fp : List Addr} (h : ER K Z H σ ρ fp) : ∀ i : Nat, ∃ fp', ER K Z H (σ.set i none) (ρ.set i none) fp' ∧ (∀ b ∈ fp', b ∈ fp) ∧ (fp.Nodup → fp'.Nodup) := by
  induction h with
  | nil => intro i; exact ⟨[], .nil, fun _ m => m, fun h => h⟩
  | @no x σ ρ fp h ih =>
    intro i
    cases i with
    | zero => exact ⟨fp, .no h, fun _ m => m, fun h => h⟩
    | succ i =>
      obtain ⟨fp', h1, h2, h3⟩ := ih i
      exact ⟨fp', .no h1, h2, h3⟩
  | @one v o g σ ρ fp r h ih =>
    intro i
    cases i with
    | zero => exact ⟨fp, .no h, fun _ m => List.mem_append_right _ m, fun h => (List.nodup_append.mp h).2.1⟩
    | succ i =>
      obtain ⟨fp', h1, h2, h3⟩ := ih i
      refine ⟨g ++ fp', .one r h1, fun b m => ?_, fun nd => ?_⟩
      · rcases List.mem_append.mp m with m | m
        · exact List.mem_append_left _ m
        · exact List.mem_append_right _ (h2 b m)
      · obtain ⟨n1, n2, n3⟩ := List.nodup_append.mp nd
        exact List.nodup_append.mpr ⟨n1, h3 n2, fun a m b m' => n3 a m b (h2 b m')⟩
theorem ER.wipe {σ : L2.St} {ρ : Env} {fp : List Addr} (h : ER K Z H σ ρ fp) : ∀ vs : List Nat, ∃ fp', ER K Z H (L2.wipe σ vs) (wipeE ρ vs) fp' ∧ (∀ b ∈ fp', b ∈ fp) ∧ (fp.Nodup → fp'.Nodup)
  | [] => ⟨fp, h, fun _ m => m, fun h => h⟩
  | v :: vs => by
    obtain ⟨fp1, h1, h2, h3⟩ := ER.wipe h vs
    obtain ⟨fp2, h4, h5, h6⟩ := h1.unset v
    exact ⟨fp2, h4, fun b m => h2 b (h5 b m), fun nd => h6 (h3 nd)⟩
theorem Stt.wipe {σ : L2.St} {ρ : Env} {fp : List Addr} (S : Stt K Z H σ ρ fp) (vs : List Nat) : ∃ fp', Stt K Z H (L2.wipe σ vs) (wipeE ρ vs) fp' ∧ ∀ b ∈ fp', b ∈ fp := by
  obtain ⟨fp', h1, h2, h3⟩ := S.er.wipe vs
  exact ⟨fp', ⟨h1, S.own.sub h2 (h3 S.own.nd), S.za⟩, h2⟩
theorem wipe_at (σ : L2.St) (i : Nat) : ∀ vs : List Nat, (i ∈ vs → ∀ x, (L2.wipe σ vs)[i]? = some x → x = none) ∧ (i ∉ vs → (L2.wipe σ vs)[i]? = σ[i]?)
  | [] => ⟨fun m => (nomatch m), fun _ => rfl⟩
  | v :: vs => by
    obtain ⟨h1, h2⟩ := wipe_at σ i vs
    unfold L2.wipe
    by_cases e : v = i
    · subst e
      refine ⟨fun _ x q => ?_, fun n => absurd List.mem_cons_self n⟩
      by_cases hl : v < (L2.wipe σ vs).length
      · rw [List.getElem?_set_self hl] at q
        exact (Option.some.inj q).symm
      · rw [List.getElem?_eq_none (by simpa using hl)] at q; cases q
    · rw [List.getElem?_set_ne e]
      refine ⟨fun m => h1 ?_, fun n => h2 fun m => n (List.mem_cons_of_mem _ m)⟩
      rcases List.mem_cons.mp m with q | m
      · exact absurd q.symm e
      · exact m
theorem wipe_back {σ σ2 : L2.St} {vs : List Nat} {n : Nat} (hn : σ.length = n) (k : KpB (offs n vs) (L2.wipe σ vs) σ2) : L2.wipe σ2 vs = L2.wipe σ vs := by
  have hl : σ2.length = σ.length := k.len.trans (wipe_length σ vs)
  refine List.ext_getElem? fun i => ?_
  by_cases m : i ∈ vs
  · obtain ⟨h1, _⟩ := wipe_at σ i vs
    obtain ⟨h2, _⟩ := wipe_at σ2 i vs
    by_cases hi : i < σ.length
    · have e1 : i < (L2.wipe σ vs).length := by rw [wipe_length]; exact hi
      have e2 : i < (L2.wipe σ2 vs).length := by rw [wipe_length, hl]; exact hi
      rw [List.getElem?_eq_getElem e1, List.getElem?_eq_getElem e2, h1 m _ (List.getElem?_eq_getElem e1), h2 m _ (List.getElem?_eq_getElem e2)]
    · rw [List.getElem?_eq_none (by rw [wipe_length, hl]; omega), List.getElem?_eq_none (by rw [wipe_length]; omega)]
  · rw [(wipe_at σ2 i vs).2 m]
    by_cases hi : i < n
    · exact k.at_ i (List.mem_filter.mpr ⟨List.mem_range.mpr hi, by simpa using m⟩)
    · rw [List.getElem?_eq_none (by omega), List.getElem?_eq_none (by rw [wipe_length]; omega)]
end
section
variable {X : Cx} {K : PySem.W.Frag} {pos : Pos} {fi : FD} {ga : FT} {tt : FB} {te : F1} {n : Nat} {vs : List Nat}
theorem runLc {σ : L2.St} {H : Hp} {Q : VK} (h : tP K (oLc n vs fi ga tt te) σ H Q) : tLc (tI K fi) (tG K (offs n vs) ga) (tT K tt) (tP K te) vs σ H Q := by
  obtain ⟨Z, ρ, fp, o, S, e, k⟩ := h
  have e : (if Nat.beq ρ.length n = true then (fi ρ).bind fun ds => if short ds = true then (lcL ga tt te ds (wipeE ρ vs)).bind fun l => some (.lst l) else none else none) = some o := e
  split at e
  · rename_i hn
    have hn : ρ.length = n := Nat.eq_of_beq_eq_true hn
    obtain ⟨ds, ed, e⟩ := bind_some e
    split at e
    · rename_i hs
      have hs := short_ok hs
      obtain ⟨l, el, e⟩ := bind_some e
      cases e
      refine ⟨Z, ρ, fp, ds, S, ed, fun Z1 H1 J it a1 D nD => ?_⟩
      have S1 := S.still a1
      have za1 := S1.za
      have nzD : ¬ Z1 D := fun z => by
        obtain ⟨o, q⟩ := za1 D z
        rw [nD] at q; cases q
      refine ⟨fun i m H2 => ∃ Z2 av ad rest, m = ds.length - i ∧ i ≤ ds.length ∧ H2 D = some (.lst av) ∧ DpZs K Z2 H2 av ad ∧ ¬ Z2 D ∧ av.length ≤ i ∧ Fr H1 [] Z1 H2 [D] Z2 ∧ lcL ga tt te (ds.drop i) (wipeE ρ vs) = some rest ∧ ad ++ rest = l,
        ⟨_, Z1, [], [], l, rfl, Nat.zero_le _, upd_same, .nil, nzD, Nat.le_refl _, upd_fr nD Z1 (fun _ z => z) (fun _ z => .inl z) (fun b m => by simpa using m), el, rfl⟩, ?_⟩
      rintro i m H2 ⟨Z2, av, ad, rest, rfl, hi, hD, dv, nz2, hlen, a2, e2, el2⟩
      have a2' : Fr H1 [] Z1 H2 [] Z2 := a2.less fun _ m => (nomatch m)
      have S2 := S1.still a2'
      obtain ⟨go, stop⟩ := it i Z2 H2 ⟨a2.zup, fun b u z e => a2.same b u e (by simp), fun b xs e => a2.same b _ e (by simp)⟩ S2.za
      have ownD : ∀ {Z : Zs} {H : Hp} {av : List V}, H D = some (.lst av) → ¬ Z D → Own Z H [D] := fun q z => ⟨by simp, fun a m => by rw [List.mem_singleton.mp m]; exact z, fun a m => by rw [List.mem_singleton.mp m]; exact ⟨_, q, trivial⟩⟩
      by_cases hlt : i < ds.length
      · obtain ⟨g1, g2⟩ := go ds[i] (List.getElem?_eq_getElem hlt)
        rw [List.drop_eq_getElem_cons hlt] at e2
        obtain ⟨ρ3, e3, e2⟩ := bind_some (show ((ga ds[i] (wipeE ρ vs)).bind fun ρ1 => (tt ρ1).bind fun b => if b = true then (te ρ1).bind fun o => (fz o).bind fun x => (lcL ga tt te (ds.drop (i + 1)) (wipeE ρ vs)).bind fun r => some (x :: r) else lcL ga tt te (ds.drop (i + 1)) (wipeE ρ vs)) = some rest from e2)
        obtain ⟨b, eb, e2⟩ := bind_some e2
        refine .inr ⟨g1, fun H' => ∃ Z2 av ad rest, i + 1 ≤ ds.length ∧ H' D = some (.lst av) ∧ DpZs K Z2 H' av ad ∧ ¬ Z2 D ∧ av.length ≤ i + 1 ∧ Fr H1 [] Z1 H' [D] Z2 ∧ lcL ga tt te (ds.drop (i + 1)) (wipeE ρ vs) = some rest ∧ ad ++ rest = l, fun H' ⟨Z2, av, ad, rest, q⟩ => ⟨_, by omega, Z2, av, ad, rest, rfl, q⟩, fun x H3 y => ?_⟩
        obtain ⟨Z3, dx, a3⟩ := g2 x H3 y
        -- the list built so far stands aside
        have step : ∀ {Z4 : Zs} {H4 : Hp}, Fr H2 [] Z2 H4 [] Z4 → H4 D = some (.lst av) ∧ DpZs K Z4 H4 av ad ∧ ¬ Z4 D ∧ Fr H1 [] Z1 H4 [D] Z4 := fun {Z4 H4} a4 => by
          refine ⟨a4.same _ _ hD (by simp), dv.still a4, fun z => ?_, a2.trans (tail_fr a4)⟩
          rcases a4.znew D _ hD z with z | z
          · exact nz2 z
          · cases z
        have S3 := S2.still a3
        obtain ⟨fpw, Sw, _⟩ := S3.wipe vs
        refine ⟨Z3, _, fpw, ds[i], ρ3, Sw, dx, e3, fun σ4 fp4 S4 s4 k4 => ⟨wipe_back (by rw [S.er.len]; exact hn) k4, Z3, ρ3, fp4, b, S4, eb, fun Z5 H5 a5 => ?_⟩⟩
        have a35 := a3.trans a5
        cases b with
        | false =>
          rw [if_neg Bool.false_ne_true] at e2
          refine L2.iteF ?_
          obtain ⟨s1, s2, s3, s4⟩ := step a35
          exact ⟨Z5, av, ad, rest, hlt, s1, s2, s3, by omega, s4, e2, el2⟩
        | true =>
          rw [if_pos rfl] at e2
          refine L2.iteT ?_
          obtain ⟨o6, e6, e2⟩ := bind_some e2
          obtain ⟨x6, ex6, e2⟩ := bind_some e2
          obtain ⟨r6, er6, e2⟩ := bind_some e2
          cases e2
          refine ⟨Z5, ρ3, fp4, o6, S4.still a5, e6, fun Z6 H6 v6 g6 r6' o6' a6 => ?_⟩
          have a6' := a6.frz0 o6'
          obtain ⟨s1, s2, s3, s4⟩ := step (a35.trans a6')
          have dz := r6'.frz ex6
          refine ⟨av, s1, by omega, _, av ++ [v6], ad ++ [x6], r6, hlt, upd_same, (s2.upd s3 fun xs q => by rw [s1] at q; cases q).append (.cons (dz.upd s3 fun xs q => by rw [s1] at q; cases q) .nil), s3, by rw [List.length_append]; simp; omega, s4.trans (Fr.upd1 ⟨_, s1⟩ (by simp)), er6, by rw [← el2]; simp⟩
      · have hl : ds.length ≤ i := Nat.le_of_not_lt hlt
        rw [List.drop_eq_nil_of_le hl] at e2
        cases e2
        rw [List.append_nil] at el2
        subst el2
        exact .inl ⟨stop hl, k Z2 H2 (.ref D) [D] (.lst hD dv) (ownD hD nz2) ((a1.trans a2))⟩
    · cases e
  · cases e
abbrev BlkAll (X : Cx) (scope : Scope) (p : Cx → Prop) : Prop := ∀ (s : Shared) (H : Hp) (C : Addr) (cl : List (Str × Addr)) (fp : List Addr), p (X.blk s H scope (compEnvC scope cl C X.env) fp)
theorem ts_nil : TDs X [] bYes := ⟨fun pins s σ H Q I h => by
  obtain ⟨Z, ρ, fp, b, S, e, k⟩ := h
  cases e
  exact pts_nil.run pins s σ H Q I (k Z H .refl)⟩
theorem ts_one {c : Expr} {f : FB} (h : TD X c f) : TDs X [c] f := pts_one h
theorem d_lc {elt tg iter : Expr} {ifs : List Expr} {scope : Scope} (own : List (Str × Nat)) {n : Nat} (hc : X.calm = true) (hN : X.N.Nodup) (hi : DI X tg iter fi) (ok : BlkOk X.N X.env.scope scope own)
    (hg : BlkAll X scope fun X => DG X (offs n (own.map (·.2))) tg ga) (ht : BlkAll X scope fun X => TDs X ifs tt) (he : BlkAll X scope fun X => DP X elt te) (hs : ∀ x, foldedSetIterable iter X.env x = pure x := by intro _; rfl) :
    DP X (.ListComp elt [⟨tg, iter, ifs, 0⟩] scope pos) (oLc n (own.map (·.2)) fi ga tt te) := PE.imp (pe_lc hc hN hi ok hg ht he hs) fun _ _ _ h => runLc h
theorem runSet {B : List Nat} {i : Nat} {t : TE} {fe : F1} (ht : ∀ σ H Q, tP K fe σ H Q → t σ H Q) (hB : i ∉ B) {D : Ends} {σ : L2.St} {H : Hp} (h : tS K B (fSet i fe) D σ H) : tAsg t (gName i) D σ H := by
  obtain ⟨Z, ρ, fp, r, S, e, k⟩ := h
  obtain ⟨o, eo, e⟩ := bind_some e
  cases e
  refine ht _ _ _ ⟨Z, ρ, fp, o, S, eo, fun Z1 H1 v1 g1 r1 o1 a1 => ?_⟩
  obtain ⟨S1, ow, fr⟩ := beside S o1 a1
  obtain ⟨fp', S2, hs⟩ := S1.set r1 ow i
  exact k Z1 H1 _ fp' S2 (fr.less hs) (kpB_set hB)
/-- y = [.. for ..], y a plain local -/
theorem s_setLc (i : Nat) {B : List Nat} {y : Str} {py spos : Pos} {elt tg iter : Expr} {ifs : List Expr} {scope : Scope} (own : List (Str × Nat)) {n : Nat} (hc : X.calm = true) (hN : X.N.Nodup) (hi : DI X tg iter fi) (ok : BlkOk X.N X.env.scope scope own)
    (hg : BlkAll X scope fun X => DG X (offs n (own.map (·.2))) tg ga) (ht : BlkAll X scope fun X => TDs X ifs tt) (he : BlkAll X scope fun X => DP X elt te) (hsw : swapsWith (.ListComp elt [⟨tg, iter, ifs, 0⟩] scope pos) (some (.Name y py)) spos.line X.env = pure true)
    (hy : X.N[i]? = some y := by rfl) (hyl : X.env.scope.names.lookup y = some .local := by rfl) (hB : i ∉ B := by decide) (hs : ∀ x, foldedSetIterable iter X.env x = pure x := by intro _; rfl) :
    DS X B (.Assign [.Name y py] (.ListComp elt [⟨tg, iter, ifs, 0⟩] scope pos) spos) (fSet i (oLc n (own.map (·.2)) fi ga tt te)) := PS.imp (ps_setLc hc hN hy hyl hsw hi ok hg ht he hs) fun D σ H h => runSet (fun _ _ _ h => runLc h) hB h
end

/-! ## lists of separate values; more than one target -/
inductive ReO (K : PySem.W.Frag) (Z : Zs) (H : Hp) : List V → List Ob → List Addr → Prop
  | nil : ReO K Z H [] [] []
  | cons {v : V} {vs : List V} {o : Ob} {os : List Ob} {g gs : List Addr} : RepO K Z H v o g → ReO K Z H vs os gs → ReO K Z H (v :: vs) (o :: os) (g ++ gs)
def tOA (K : PySem.W.Frag) (f : FL) : TA := fun σ H Q => ∃ Z ρ fp os, Stt K Z H σ ρ fp ∧ f ρ = some os ∧ ∀ Z' H' vs g, ReO K Z' H' vs os g → Own Z' H' g → Fr H [] Z H' g Z' → Q vs H'
abbrev OA (X : Cx) (es : List Expr) (f : FL) : Prop := PA X es (tOA X.K f)
def setAll : List Nat → List Ob → Env → Option Env
  | [], [], ρ => some ρ
  | i :: is, o :: os, ρ => setAll is os (ρ.set i (some o))
  | _, _, _ => none
def fPar (is : List Nat) (fl : FL) : FS := fun ρ => (fl ρ).bind fun os => (setAll is os ρ).bind fun ρ' => some (.nx ρ')
section
variable {X : Cx} {K : PySem.W.Frag} {B : List Nat} {pos : Pos} {e : Expr} {es : List Expr} {f : F1} {fl : FL}
theorem oa_nil : OA X [] lNil := PA.imp pa_nil fun σ H Q h => by
  obtain ⟨Z, ρ, fp, os, S, e, k⟩ := h
  cases e
  exact k Z H [] [] .nil .nil .nil
theorem oa_cons (ha : DP X e f) (hr : OA X es fl) (hs : starEach (e :: es) X.env = (false, eval e X.env) :: starEach es X.env := by rfl) : OA X (e :: es) (lCons f fl) := PA.imp (pa_cons ha hr hs) fun σ H Q h => by
  obtain ⟨Z, ρ, fp, os, S, e, k⟩ := h
  obtain ⟨x, ex, e⟩ := bind_some e
  obtain ⟨ys, ey, e⟩ := bind_some e
  cases e
  refine ⟨Z, ρ, fp, x, S, ex, fun Z1 H1 v1 g1 r1 o1 a1 => ⟨Z1, ρ, fp, ys, S.still (a1.less (fr := []) fun _ m => (nomatch m)), ey, fun Z2 H2 vs g2 r2 o2 a2 => ?_⟩⟩
  have a2' : Fr H1 [] Z1 H2 [] Z2 := a2.less fun _ m => (nomatch m)
  have q := a2.aside (g := g1)
  rw [List.append_nil] at q
  exact k Z2 H2 (v1 :: vs) (g1 ++ g2) (.cons (r1.still a2') r2) (o1.fresh a2 o2) (a1.trans q)
theorem setAll_run {Z : Zs} {H : Hp} : ∀ (is : List Nat) {os : List Ob} {vs : List V} {g : List Addr} {σ : L2.St} {ρ ρ' : Env} {fp : List Addr}, ReO K Z H vs os g → Stt K Z H σ ρ fp → Own Z H (g ++ fp) → setAll is os ρ = some ρ' → (∀ i ∈ is, i ∉ B) →
    ∀ (Q : L2.St → Prop), (∀ σ' fp', Stt K Z H σ' ρ' fp' → (∀ b ∈ fp', b ∈ g ++ fp) → KpB B σ σ' → Q σ') → ∃ f : List (Nat × V), f = is.zip vs ∧ is.length = vs.length ∧ Q (f.foldl (fun σ p => σ.set p.1 (some p.2)) σ)
  | [], os, vs, g, σ, ρ, ρ', fp, r, S, ow, e, hB, Q, k => by
    cases r with
    | nil => cases e; exact ⟨[], rfl, rfl, k σ fp S (fun b m => m) .rfl⟩
    | cons _ _ => cases e
  | i :: is, os, vs, g, σ, ρ, ρ', fp, r, S, ow, e, hB, Q, k => by
    cases r with
    | nil => cases e
    | @cons v vs o os g1 g2 r1 rs =>
      have ow2 : Own Z H (g1 ++ fp) := ow.sub (fun b m => by
        simp only [List.mem_append] at m ⊢
        rcases m with m | m
        · exact .inl (.inl m)
        · exact .inr m) (by
        obtain ⟨n1, n2, n3⟩ := List.nodup_append.mp ow.nd
        obtain ⟨n4, n5, n6⟩ := List.nodup_append.mp n1
        exact List.nodup_append.mpr ⟨n4, n2, fun a m b m' => n3 a (List.mem_append_left _ m) b m'⟩)
      obtain ⟨fp', S', hs⟩ := S.set r1 ow2 i
      have ow3 : Own Z H (g2 ++ fp') := by
        refine ow.sub (fun b m => ?_) ?_
        · simp only [List.mem_append] at m ⊢
          rcases m with m | m
          · exact .inl (.inr m)
          · rcases List.mem_append.mp (hs b m) with m | m
            · exact .inl (.inl m)
            · exact .inr m
        · obtain ⟨n1, n2, n3⟩ := List.nodup_append.mp ow.nd
          obtain ⟨n4, n5, n6⟩ := List.nodup_append.mp n1
          refine List.nodup_append.mpr ⟨n5, S'.own.nd, fun a m b m' q => ?_⟩
          subst q
          rcases List.mem_append.mp (hs a m') with m' | m'
          · exact n6 a m' a m rfl
          · exact n3 a (List.mem_append_right _ m) a m' rfl
      obtain ⟨f, rfl, hl, q⟩ := setAll_run is rs S' ow3 e (fun j m => hB j (List.mem_cons_of_mem _ m)) Q fun σ' fp'' S'' s'' k'' => k σ' fp'' S'' (fun b m => by
        rcases List.mem_append.mp (s'' b m) with m | m
        · exact List.mem_append_left _ (List.mem_append_right _ m)
        · rcases List.mem_append.mp (hs b m) with m | m
          · exact List.mem_append_left _ (List.mem_append_left _ m)
          · exact List.mem_append_right _ m) ((kpB_set (hB i List.mem_cons_self)).trans k'')
      exact ⟨_, rfl, by simp [hl], q⟩
/-- the targets as plain names, from the left -/
def gNames : List Nat → TGs
  | [] => gNil
  | i :: is => gCons (gName i) (gNames is)
theorem gNames_run : ∀ (is : List Nat) {vs : List V} {σ : L2.St} {H : Hp} {Q : L2.St → Hp → Prop}, is.length = vs.length → Q ((is.zip vs).foldl (fun σ p => σ.set p.1 (some p.2)) σ) H → gNames is vs σ H Q
  | [], [], _, _, _, _, q => ⟨rfl, q⟩
  | [], _ :: _, _, _, _, h, _ => by simp at h
  | _ :: _, [], _, _, _, h, _ => by simp at h
  | i :: is, v :: vs, σ, H, Q, h, q => ⟨v, vs, rfl, gNames_run is (by simpa using h) q⟩
theorem runPar {is : List Nat} {σ : L2.St} {H : Hp} {D : Ends} (hB : ∀ i ∈ is, i ∉ B) (h : tS K B (fPar is fl) D σ H) : tOA K fl σ H fun vs H1 => is.length = vs.length ∧ ∀ (H2 : Hp), (∃ p, H1 p = none ∧ H2 = upd H1 p (.tup vs)) ∨ H2 = H1 → D.nx ((is.zip vs).foldl (fun σ p => σ.set p.1 (some p.2)) σ) H2 := by
  obtain ⟨Z, ρ, fp, r, S, e, k⟩ := h
  obtain ⟨os, eo, e⟩ := bind_some e
  obtain ⟨ρ', er, e⟩ := bind_some e
  cases e
  refine ⟨Z, ρ, fp, os, S, eo, fun Z1 H1 vs g r1 o1 a1 => ?_⟩
  obtain ⟨S1, ow, fr⟩ := beside S o1 a1
  obtain ⟨_, rfl, hl, _⟩ := setAll_run (B := B) is r1 S1 ow er hB (fun _ => True) fun _ _ _ _ _ => trivial
  refine ⟨hl, fun H2 hH => ?_⟩
  rcases hH with ⟨p, np, rfl⟩ | rfl
  · have a2 : Fr H1 [] Z1 (upd H1 p (.tup vs)) [] Z1 := upd_fr np Z1 (fun _ z => z) (fun _ z => .inl z) (fun b m => (nomatch m))
    have r2 : ReO K Z1 (upd H1 p (.tup vs)) vs os g := by
      have all : ∀ {vs os g}, ReO K Z1 H1 vs os g → ∀ ws, Fr H1 [] Z1 (upd H1 p (.tup ws)) [] Z1 → ReO K Z1 (upd H1 p (.tup ws)) vs os g := by
        intro vs os g h ws a
        induction h with
        | nil => exact .nil
        | cons r _ ih => exact .cons (r.still a) ih
      exact all r1 vs a2
    obtain ⟨_, rfl, _, q⟩ := setAll_run (B := B) is r2 (S1.still a2) (ow.still a2) er hB (fun σ' => D.nx σ' (upd H1 p (.tup vs))) fun σ' fp' S' s' k' => k _ _ σ' fp' S' ((fr.trans (tail_fr a2)).less s') k'
    exact q
  · obtain ⟨_, rfl, _, q⟩ := setAll_run (B := B) is r1 S1 ow er hB (fun σ' => D.nx σ' H2) fun σ' fp' S' s' k' => k _ _ σ' fp' S' (fr.less s') k'
    exact q
theorem tOA_mono {K : PySem.W.Frag} {fl : FL} {σ : L2.St} {H : Hp} {Q Q' : List V → Hp → Prop} (h : tOA K fl σ H Q) (k : ∀ vs H, Q vs H → Q' vs H) : tOA K fl σ H Q' := by
  obtain ⟨Z, ρ, fp, os, S, e, q⟩ := h
  exact ⟨Z, ρ, fp, os, S, e, fun Z' H' vs g r o a => k _ _ (q Z' H' vs g r o a)⟩
theorem len_le {is : List Nat} {vs : List V} (h : is.length = vs.length) (c : is.length ≤ 1000) : vs.length ≤ sizeLine := by rw [← h]; exact Nat.le_of_lt (small1000 c)
/-- a, b, .. = x, y, .. by a tuple -/
theorem s_parT (is : List Nat) {tgs : List Expr} {k1 k2 : Nat} {p1 p2 : Pos} (hc : X.calm = true) (ha : OA X es fl) (ht : PGs X tgs (gNames is)) (hB : ∀ i ∈ is, i ∉ B := by decide) (hlen : is.length ≤ 1000 := by decide)
    (hn : (assignEach tgs X.env).length = is.length := by rfl) (hst : (assignEach tgs X.env).findIdx? (·.1) = none := by rfl)
    (hs : swapsWithSole [.Tuple tgs k1 p1] (.Tuple es k2 p2) pos.line X.env = pure false := by rfl) (hw : swappedStores [.Tuple tgs k1 p1] (.Tuple es k2 p2) X.env = pure none := by rfl)
    (h1 : (assignEach [.Tuple tgs k1 p1] X.env).map (·.2) = [assign (.Tuple tgs k1 p1) X.env] := by rfl) :
    DS X B (.Assign [.Tuple tgs k1 p1] (.Tuple es k2 p2) pos) (fPar is fl) := PS.imp (ps_asg (pe_tup ha) (pg_tup hc ht hn hst) hs hw h1) fun D σ H h => tOA_mono (runPar hB h) fun vs H1 ⟨hl, q⟩ => by
  refine ⟨len_le hl hlen, fun p np => ⟨p, vs, rfl, .of upd_same, hl.symm, gNames_run is hl (q _ (.inl ⟨p, np, rfl⟩))⟩⟩
/-- a, b = x, y of plain locals -/
theorem s_par2 (i j : Nat) {x y : Str} {a b : Expr} {px py pt pt2 : Pos} {kt k2 : Nat} (hc : X.calm = true) (hN : X.N.Nodup) (ha : OA X [a, b] fl) (hi : X.N[i]? = some x := by rfl) (hj : X.N[j]? = some y := by rfl) (hij : i ≠ j := by decide)
    (hx : X.env.scope.names.lookup x = some .local := by rfl) (hy : X.env.scope.names.lookup y = some .local := by rfl) (hB : ∀ k ∈ [i, j], k ∉ B := by decide)
    (hw : swappedStores [.Tuple [.Name x px, .Name y py] kt pt] (.Tuple [a, b] k2 pt2) X.env = pure (some [x, y]) := by rfl) (hs : swapsWithSole [.Tuple [.Name x px, .Name y py] kt pt] (.Tuple [a, b] k2 pt2) pos.line X.env = pure false := by rfl) :
    DS X B (.Assign [.Tuple [.Name x px, .Name y py] kt pt] (.Tuple [a, b] k2 pt2) pos) (fPar [i, j] fl) := PS.imp (ps_par hc hN hi hj hij hx hy ha hw hs) fun D σ H h => tOA_mono (runPar hB h) fun vs H1 ⟨hl, q⟩ => by
  match vs, hl with
  | [v, w], _ => exact ⟨v, w, rfl, q H1 (.inr rfl)⟩
/-- a, b, c = x, y, z of plain locals: stored from the right -/
theorem ps_par3 {i j m : Nat} {x y z : Str} {a b c : Expr} {ta : TA} {px py pz pt pt2 : Pos} {kt k2 : Nat} (hc : X.calm = true) (hN : X.N.Nodup) (hi : X.N[i]? = some x) (hj : X.N[j]? = some y) (hm : X.N[m]? = some z) (hij : i ≠ j) (him : i ≠ m) (hjm : j ≠ m)
    (hx : X.env.scope.names.lookup x = some .local) (hy : X.env.scope.names.lookup y = some .local) (hz : X.env.scope.names.lookup z = some .local) (ha : PA X [a, b, c] ta)
    (hw : swappedStores [.Tuple [.Name x px, .Name y py, .Name z pz] kt pt] (.Tuple [a, b, c] k2 pt2) X.env = pure (some [x, y, z]))
    (hs : swapsWithSole [.Tuple [.Name x px, .Name y py, .Name z pz] kt pt] (.Tuple [a, b, c] k2 pt2) pos.line X.env = pure false) :
    PS X (.Assign [.Tuple [.Name x px, .Name y py, .Name z pz] kt pt] (.Tuple [a, b, c] k2 pt2) pos) (fun D σ H => ta σ H fun vs H1 => ∃ v w u, vs = [v, w, u] ∧ D.nx (((σ.set i (some v)).set j (some w)).set m (some u)) H1) := by
  constructor
  intro pins s σ H D I h
  rw [exec_Assign_arm]
  refine wpAny_bind (wpAny_standAt ?_)
  rw [hs]
  refine wpAny_bind (wpAny_pure ?_)
  rw [if_neg (by decide)]
  refine wpAny_bind (Tuple_ (thn (ha.run _ pins s σ H _ I h) fun us s1 hus => ?_))
  obtain ⟨vs, H1, I1, r1, v, w, u, e1, q1⟩ := hus
  subst e1
  obtain ⟨u1, u2, u3, rfl, rv, rw', ru⟩ : ∃ u1 u2 u3, us = [u1, u2, u3] ∧ RelV v u1 ∧ RelV w u2 ∧ RelV u u3 := by
    cases r1 with
    | cons p1 t1 => cases t1 with
      | cons p2 t2 => cases t2 with
        | cons p3 t3 => cases t3; exact ⟨_, _, _, rfl, p1, p2, p3⟩
  refine wpAny_newObj_type ?_ (by show 3 ≤ sizeLine; decide)
  have I2 : Inv X pins σ H1 { s1 with heap := s1.heap.push { cls := .type "tuple", data := .seq [u1, u2, u3].toArray } } := I1.kept (t' := s1.toks) fun b o e => Heap.get?_push_of_some _ e
  rw [hw]
  refine wpAny_bind (wpAny_pure ?_)
  show wpAny (model X.prog X.w) X.A (do rule "assign.swapped-stores"; let items ← unpackItems (.ref s1.heap.objs.size) 3 none; assignInOrder [fun v => bindName X.env z v, fun v => bindName X.env y v, fun v => bindName X.env x v] items.reverse; pure Flow.next) _ _ _
  refine wpAny_bind (wpAny_rule (wpAny_bind (unpackItems_tuple (items := #[u1, u2, u3]) (I.ok.hd hc) (IsTup.new s1.heap _) fun h' hx' => ?_)))
  have I3 := I2.kept (h' := h') (t' := s1.toks) fun b o e => hx' b o (Nat.ne_of_lt (Heap.lt_size e)) e
  show wpAny _ _ (assignInOrder [fun v => bindName X.env z v, fun v => bindName X.env y v, fun v => bindName X.env x v] [u3, u2, u1] >>= fun _ => pure Flow.next) _ _ _
  refine wpAny_bind (assignInOrder_cons (wpAny_bindName (store_ok I3 hN hm (.inl hz) ru (fun s2 I4 => ?_) (.inr hz))))
  refine assignInOrder_cons (wpAny_bindName (store_ok I4 hN hj (.inl hy) rw' (fun s3 I5 => ?_) (.inr hy)))
  refine assignInOrder_cons (wpAny_bindName (store_ok I5 hN hi (.inl hx) rv (fun s4 I6 => assignInOrder_nil (wpAny_pure ?_)) (.inr hx)))
  rw [List.set_comm _ _ (Ne.symm hij), List.set_comm _ _ (Ne.symm him), List.set_comm _ _ (Ne.symm hjm)] at I6
  exact ⟨_, H1, I6, q1⟩
theorem s_par3 (i j m : Nat) {x y z : Str} {a b c : Expr} {px py pz pt pt2 : Pos} {kt k2 : Nat} (hc : X.calm = true) (hN : X.N.Nodup) (ha : OA X [a, b, c] fl) (hi : X.N[i]? = some x := by rfl) (hj : X.N[j]? = some y := by rfl) (hm : X.N[m]? = some z := by rfl) (hij : i ≠ j := by decide) (him : i ≠ m := by decide) (hjm : j ≠ m := by decide)
    (hx : X.env.scope.names.lookup x = some .local := by rfl) (hy : X.env.scope.names.lookup y = some .local := by rfl) (hz : X.env.scope.names.lookup z = some .local := by rfl) (hB : ∀ k ∈ [i, j, m], k ∉ B := by decide)
    (hw : swappedStores [.Tuple [.Name x px, .Name y py, .Name z pz] kt pt] (.Tuple [a, b, c] k2 pt2) X.env = pure (some [x, y, z]) := by rfl) (hs : swapsWithSole [.Tuple [.Name x px, .Name y py, .Name z pz] kt pt] (.Tuple [a, b, c] k2 pt2) pos.line X.env = pure false := by rfl) :
    DS X B (.Assign [.Tuple [.Name x px, .Name y py, .Name z pz] kt pt] (.Tuple [a, b, c] k2 pt2) pos) (fPar [i, j, m] fl) := PS.imp (ps_par3 hc hN hi hj hm hij him hjm hx hy hz ha hw hs) fun D σ H h => tOA_mono (runPar hB h) fun vs H1 ⟨hl, q⟩ => by
  match vs, hl with
  | [v, w, u], _ => exact ⟨v, w, u, rfl, q H1 (.inr rfl)⟩
end

/-! ## defs -/
abbrev Fn := List PyData → Option Ob
/-- a def's promise: data in, an object out -/
def spP (K : PySem.W.Frag) (n : Nat) (F : Fn) : Sp := fun vs H Q _ => ∃ Z ds o, Za Z H ∧ DpZs K Z H vs ds ∧ ds.length = n ∧ F ds = some o ∧ Rst K Z H o Q
def dCall (n : Nat) (F : Fn) (fd : FD) : F1 := fun ρ => (fd ρ).bind fun ds => if Nat.beq ds.length n then F ds else none
def startE (n : Nat) (ds : List PyData) : Env := ds.map (fun d => some (.fr d)) ++ List.replicate (n - ds.length) none
/-- what a def with this body gives -/
def fnOf (n : Nat) (f : FS) : Fn := fun ds => (f (startE n ds)).bind fun r => match r with
  | .rt o _ => some o
  | .nx _ => some (.fr .none)
  | _ => none
section
variable {X : Cx} {CX : CXT} {k : Nat} {f : Addr} {fd : FuncData} {ps : List Str} {E : XK} {x : Str} {p pos : Pos} {e : Expr} {es : List Expr} {fl : FD} {n : Nat} {F : Fn}
theorem d_call (F' : FnOk X.prog X.w X.K X.mg X.base CX0 k f fd ps (spP X.K n F)) (hr : Room k X.A) (hg : Gl X x) (hm : X.mg x = some (.ref f)) (hk : PySem.W.keepIn X.K (.ref f) = true) (hb : Binds X.K fd ps [])
    (ha : DA X (e :: es) fl) (hdb : (x == ("__debug__" : Str)) = false := by decide) (he : starEach (e :: es) X.env = (false, eval e X.env) :: starEach es X.env := by rfl) (hpl : (backTo pos (starEach es X.env)).any (·.1) = false := by rfl) :
    DP X (.Call (.Name x p) (e :: es) [] pos) (dCall n F fl) := PE.imp (pe_call F' hr hg hm hk hb .nil pass0 ha hdb he hpl) fun σ H Q h => by
  obtain ⟨Z, ρ, fp, o, S, e, kk⟩ := h
  obtain ⟨ds, ed, e⟩ := bind_some e
  split at e
  · rename_i hn
    refine ⟨Z, ρ, fp, ds, S, ed, fun Z1 H1 vs r1 a1 => ?_⟩
    show spP X.K n F (vs ++ []) H1 Q E0
    rw [List.append_nil]
    exact ⟨Z1, ds, o, a1.zal S.za, r1, Nat.eq_of_beq_eq_true hn, e, fun Z2 H2 v2 g2 r2 o2 a2 => kk Z2 H2 v2 g2 r2 o2 (a1.trans a2)⟩
  · cases e
theorem start_er {K : PySem.W.Frag} {Z : Zs} {H : Hp} {N : List Str} : ∀ {vs : List V} {ds : List PyData}, DpZs K Z H vs ds → ∀ m : Nat, ER K Z H (vs.map some ++ List.replicate m none) (ds.map (fun d => some (.fr d)) ++ List.replicate m none) []
  | _, _, .nil, m => by
    simp only [List.map_nil, List.nil_append]
    induction m with
    | zero => exact .nil
    | succ m ih => rw [List.replicate_succ, List.replicate_succ]; exact .no ih
  | _, _, .cons h t, m => .one (g := []) (.fr h) (start_er (N := N) t m)
/-- THE RULE for a def -/
theorem fn_ok {P : Program} {w : World} {K : PySem.W.Frag} {mg : Str → Option Value} {base : Heap} {qx qual : Str} {params : Arguments} {body : List Stmt} {scope : Scope} {N : List Str} {k m : Nat} {fs : FS} (Fd : FunD K qx qual params body scope [] [] f fd) (S : FnScope N ps scope) (hps : ps.length = n) (hN : N.length = m)
    (h : ∀ (cdv : Value) (A : Around) (outer : List PySem.Env) (s : Shared) (H : Hp) (E : XK), Room k (A.deeper (envOfC qual scope s.heap.objs.size f cdv)) → DSs (cxOf CX0 P w K mg base N qual scope f cdv A outer s H E).nox [] body fs) :
    FnOk P w K mg base CX0 (k + 1) f fd ps (spP K n (fnOf m fs)) := by
  refine Fd.ok S (fun vs H Q E h => ?_) fun cdv A outer s H vs Q E hr hq => ⟨_, (h cdv A outer s H E hr).nox, ?_⟩
  · obtain ⟨Z, ds, o, _, h1, h2, _⟩ := h
    rw [h1.length, h2, hps]
  · obtain ⟨Z, ds, o, za, h1, h2, h3, q⟩ := hq
    obtain ⟨r, er, e⟩ := bind_some h3
    have er0 : ER K Z H (start N vs) (startE m ds) [] := by
      unfold L2.start startE
      rw [hN, h1.length]
      exact start_er (N := N) h1 _
    refine ⟨Z, startE m ds, [], r, ⟨er0, .nil, za⟩, er, ?_⟩
    cases r with
    | rt o' ρ' =>
      cases e
      exact fun Z' H' σ' fp' v g S' r' ow a _ => q Z' H' v g r' ow.left (a.less fun b m => List.mem_append_left _ m)
    | nx ρ' =>
      cases e
      exact fun Z' H' σ' fp' S' a _ => q Z' H' .non [] (.fr .non) .nil (a.less fun b m => (nomatch m))
    | bk _ => cases e
    | ct _ => cases e
end
end DL

namespace DL
open PySem PySem.Spec PyProof.Rows L2

/-! ## keys and tables -/
def dkey : PyData → Option Key
  | .int i => some (.inl i)
  | .str x => some (.inr x)
  | _ => none
def dkeys : List PyData → Option (List Key)
  | [] => some []
  | d :: ds => (dkey d).bind fun k => (dkeys ds).bind fun ks => some (k :: ks)
def dkeyT : PyData → Option (List Key)
  | .tuple l => dkeys l
  | _ => none
def kD : Key → PyData
  | .inl i => .int i
  | .inr x => .str x
def kTD (k : List Key) : PyData := .tuple (k.map kD)
section
variable {κ : Type} [DecidableEq κ]
def valD : List (κ × PyData) → κ → Option PyData
  | [], _ => none
  | p :: r, k => if decide (p.1 = k) then some p.2 else valD r k
def hasD (kds : List (κ × PyData)) (k : κ) : Bool := kds.any fun kv => decide (kv.1 = k)
def putD (kds : List (κ × PyData)) (k : κ) (d : PyData) : List (κ × PyData) :=
  if hasD kds k then kds.map (fun kv => if decide (kv.1 = k) then (kv.1, d) else kv) else kds ++ [(k, d)]
def putsD (kds : List (κ × PyData)) : List (κ × PyData) → List (κ × PyData)
  | [] => kds
  | p :: r => putsD (putD kds p.1 p.2) r
variable {K : PySem.W.Frag} {Z : Zs} {H : Hp} {kvs : List (κ × V)} {kds : List (κ × PyData)}
theorem DKv.length (h : DKv K Z H kvs kds) : kvs.length = kds.length := by
  induction h with
  | nil => rfl
  | cons _ _ ih => simp [ih]
theorem DKv.val (h : DKv K Z H kvs kds) (k : κ) : (valD kds k = none ∧ valV kvs k = none) ∨ ∃ d v, valD kds k = some d ∧ valV kvs k = some v ∧ DpZ K Z H v d := by
  induction h with
  | nil => exact .inl ⟨rfl, rfl⟩
  | @cons k' v d kvs kds r _ ih =>
    by_cases e : k' = k
    · exact .inr ⟨d, v, by unfold valD; rw [decide_eq_true e]; rfl, valV_pos (p := (k', v)) e, r⟩
    · have e1 : valD ((k', d) :: kds) k = valD kds k := by
        show (if decide (k' = k) = true then some d else valD kds k) = _
        rw [decide_eq_false e]; rfl
      have e2 : valV ((k', v) :: kvs) k = valV kvs k := valV_neg (p := (k', v)) e
      rw [e1, e2]
      exact ih
theorem DKv.has (h : DKv K Z H kvs kds) (k : κ) : (kvs.any fun kv => decide (kv.1 = k)) = hasD kds k := by
  unfold hasD
  induction h with
  | nil => rfl
  | cons _ _ ih => rw [List.any_cons, List.any_cons, ih]
theorem DKv.app {kvs' : List (κ × V)} {kds' : List (κ × PyData)} (h : DKv K Z H kvs kds) (h' : DKv K Z H kvs' kds') : DKv K Z H (kvs ++ kvs') (kds ++ kds') := by
  induction h with
  | nil => exact h'
  | cons r _ ih => exact .cons r ih
theorem DKv.put (h : DKv K Z H kvs kds) (k : κ) {v : V} {d : PyData} (r : DpZ K Z H v d) : DKv K Z H (putK kvs k v) (putD kds k d) := by
  unfold putK putD
  rw [h.has k]
  by_cases c : hasD kds k = true
  · rw [if_pos c, if_pos c]
    clear c
    induction h with
    | nil => exact .nil
    | @cons k' v' d' kvs kds r' _ ih =>
      rw [List.map_cons, List.map_cons]
      by_cases e : k' = k
      · show DKv K Z H ((if k' = k then (k', v) else (k', v')) :: _) ((if decide (k' = k) = true then (k', d) else (k', d')) :: _)
        rw [if_pos e, decide_eq_true e, if_pos rfl]
        exact .cons r ih
      · show DKv K Z H ((if k' = k then (k', v) else (k', v')) :: _) ((if decide (k' = k) = true then (k', d) else (k', d')) :: _)
        rw [if_neg e, decide_eq_false e, if_neg Bool.false_ne_true]
        exact .cons r' ih
  · rw [if_neg c, if_neg c]
    exact h.app (.cons r .nil)
theorem putD_length (kds : List (κ × PyData)) (k : κ) (d : PyData) : (putD kds k d).length ≤ kds.length + 1 := by
  unfold putD
  split
  · rw [List.length_map]; omega
  · rw [List.length_append]; simp
theorem DKv.keys (h : DKv K Z H kvs kds) : kvs.map (·.1) = kds.map (·.1) := by
  induction h with
  | nil => rfl
  | cons _ _ ih => simp [ih]
end
section
variable {K : PySem.W.Frag} {Z : Zs} {H : Hp}
theorem kD_rep (Z : Zs) (H : Hp) (k : Key) : DpZ K Z H (kV k) (kD k) := by
  cases k with
  | inl i => exact .int i
  | inr x => exact .str x
theorem dkey_rep {v : V} {d : PyData} {k : Key} (h : DpZ K Z H v d) (e : dkey d = some k) : v = kV k := by
  cases d <;> first | (cases e; done) | skip
  · cases e; cases h; rfl
  · cases e; cases h; rfl
theorem dkeys_rep : ∀ {ds : List PyData} {vs : List V} {ks : List Key}, DpZs K Z H vs ds → dkeys ds = some ks → vs = ks.map kV
  | [], _, _, h, e => by cases e; cases h; rfl
  | d :: ds, _, ks, h, e => by
    obtain ⟨k, ek, e⟩ := bind_some (show ((dkey d).bind fun k => (dkeys ds).bind fun ks => some (k :: ks)) = some ks from e)
    obtain ⟨l, el, e⟩ := bind_some e
    cases e
    cases h with
    | cons h t => rw [dkey_rep h ek, dkeys_rep t el]; rfl
theorem dkeyT_rep {v : V} {d : PyData} {ks : List Key} (h : DpZ K Z H v d) (e : dkeyT d = some ks) : ∃ b, v = .ref b ∧ H b = some (.tup (ks.map kV)) := by
  cases d <;> first | (cases e; done) | skip
  obtain ⟨a, xs, rfl, s, t⟩ := h.tupAt
  rw [dkeys_rep t e] at s
  exact ⟨a, rfl, s⟩
theorem dkey_kD : ∀ {d : PyData} {k : Key}, dkey d = some k → kD k = d
  | .int _, _, e => by cases e; rfl
  | .str _, _, e => by cases e; rfl
  | .none, _, e => by cases e
  | .bool _, _, e => by cases e
  | .list _, _, e => by cases e
  | .tuple _, _, e => by cases e
  | .dict _, _, e => by cases e
end

/-! ## {}, len, in, [] -/
section
variable {X : Cx} {K : PySem.W.Frag} {Z : Zs} {H : Hp} {pos : Pos}
/-- a new thing of one object -/
theorem Rst.new1 {Q : VK} {o : Ob} {u : HO} (k : Rst K Z H o Q) (za : Za Z H) (mu : Mt u) (r : ∀ p H', H' p = some u → Fr H [] Z H' [p] Z → RepO K Z H' (.ref p) o [p]) : ∀ p, H p = none → Q (.ref p) (upd H p u) := fun p np => by
  have a : Fr H [] Z (upd H p u) [p] Z := upd_fr np Z (fun _ z => z) (fun _ z => .inl z) (fun b m => by simpa using m)
  refine k Z (upd H p u) (.ref p) [p] (r p _ upd_same a) ⟨by simp, fun b m z => ?_, fun b m => ?_⟩ a
  · obtain rfl : b = p := by simpa using m
    obtain ⟨o, q⟩ := za b z
    rw [np] at q; cases q
  · obtain rfl : b = p := by simpa using m
    exact ⟨_, upd_same, mu⟩
theorem d_newK : DP X (.Dict [] [] pos) (fun _ => some (.dk [])) := PE.imp pe_dnewK fun σ H Q h => by
  obtain ⟨Z, ρ, fp, o, S, e, k⟩ := h
  cases e
  exact Rst.new1 (K := X.K) k S.za trivial fun p H' q a => .dk q .nil
theorem d_newT : DP X (.Dict [] [] pos) (fun _ => some (.dt [])) := PE.imp pe_dnewT fun σ H Q h => by
  obtain ⟨Z, ρ, fp, o, S, e, k⟩ := h
  cases e
  exact Rst.new1 (K := X.K) k S.za trivial fun p H' q a => .dt q .nil
def lenA (x : Ob) : Option Ob := match x with
  | .dk l => some (.fr (.int l.length))
  | .dt l => some (.fr (.int l.length))
  | x => lenO x
abbrev rLenA (K : PySem.W.Frag) : List V → Hp → VK → Prop := fun xs H Q => (∃ a kvs, xs = [V.ref a] ∧ H a = some (.dK kvs) ∧ Q (.int kvs.length) H) ∨ (rLenT xs H Q ∨ (∃ p ys, xs = [.ref p] ∧ (SqL K H p ys ∨ SqT K H p ys) ∧ Q (.int ys.length) H))
theorem op_lenA : CallR X (.builtin "len") (rLenA X.K) := call_lenD.or (call_len_dT.or call_len_seq)
theorem rd_lenA : RdL K (rLenA K) (g1 lenA) := fun Z H vs os o' Q za rs e k => by
  obtain ⟨x, rfl, e2⟩ := g1_some e
  clear e
  have e := e2
  clear e2
  unfold lenA at e
  split at e
  · rename_i l
    cases e
    cases rs with
    | cons r t =>
      cases t
      cases r with
      | dk h d => exact .inl ⟨_, _, rfl, h, by rw [d.length]; exact k.flat (.int _)⟩
  · rename_i l
    cases e
    cases rs with
    | cons r t =>
      cases t
      cases r with
      | dt h d => exact .inr (.inl ⟨_, _, rfl, h, by rw [d.length]; exact k.flat (.int _)⟩)
  · exact .inr (.inr (rd_len Z H vs _ o' Q za rs (show g1 lenO [_] = some o' from e) k))

def dinO (x y : Ob) : Option Ob := match y with
  | .dk l => (asD x).bind fun d => (dkey d).bind fun k => some (fB (hasD l k))
  | .dt l => (asD x).bind fun d => (dkeyT d).bind fun k => some (fB (hasD l k))
  | _ => none
def dniO (x y : Ob) : Option Ob := match y with
  | .dk l => (asD x).bind fun d => (dkey d).bind fun k => some (fB (!hasD l k))
  | .dt l => (asD x).bind fun d => (dkeyT d).bind fun k => some (fB (!hasD l k))
  | _ => none
def inA (x y : Ob) : Option Ob := match y with
  | .dk l => (asD x).bind fun d => (dkey d).bind fun k => some (fB (hasD l k))
  | .dt l => (asD x).bind fun d => (dkeyT d).bind fun k => some (fB (hasD l k))
  | y => inO x y
def niA (x y : Ob) : Option Ob := match y with
  | .dk l => (asD x).bind fun d => (dkey d).bind fun k => some (fB (!hasD l k))
  | .dt l => (asD x).bind fun d => (dkeyT d).bind fun k => some (fB (!hasD l k))
  | y => niO x y
abbrev rDIn (n : Bool) : R2 := fun x y H Q => ∃ a o, y = .ref a ∧ DGet H a x o ∧ Q (.bl (if n then !o.isSome else o.isSome)) H
theorem op_din (hu : X.A.units + 64 < cLine) : OpR X (compareOp .In) (rDIn false) := by
  intro pins s σ H x y v u Q I rx ry h
  obtain ⟨a, o, rfl, g, q⟩ := h
  obtain rfl : u = Value.ref a := ry
  exact d_in (by omega) I g rx fun s' I' => ⟨.bl o.isSome, H, I', rfl, q⟩
theorem op_dni (hu : X.A.units + 64 < cLine) : OpR X (compareOp .NotIn) (rDIn true) := by
  intro pins s σ H x y v u Q I rx ry h
  obtain ⟨a, o, rfl, g, q⟩ := h
  obtain rfl : u = Value.ref a := ry
  exact d_notIn (by omega) I g rx fun s' I' => ⟨.bl (!o.isSome), H, I', rfl, q⟩
theorem hasD_val {κ : Type} [DecidableEq κ] {kvs : List (κ × V)} {kds : List (κ × PyData)} (h : DKv K Z H kvs kds) (k : κ) : (valV kvs k).isSome = hasD kds k := by
  rw [← valV_any, h.has]
theorem rd_din : Rd2 K (fun x y H Q => rDIn false x y H Q ∨ rInA X false x y H Q) dinO := fun Z H v u o p h h' o' Q za r1 r2 e k => by
  unfold dinO at e
  split at e
  · rename_i l
    obtain ⟨d, ed, e⟩ := bind_some e
    obtain ⟨kk, ek, e⟩ := bind_some e
    cases e
    obtain ⟨d1, _⟩ := asD_rep r1 ed
    cases r2 with
    | @dk _ kvs _ hh dd =>
      refine .inl ⟨_, valV kvs kk, rfl, ?_, ?_⟩
      · rw [dkey_rep d1 ek]; exact .k hh
      · rw [hasD_val dd]; exact k.flat (.bl _)
  · rename_i l
    obtain ⟨d, ed, e⟩ := bind_some e
    obtain ⟨kk, ek, e⟩ := bind_some e
    cases e
    obtain ⟨d1, _⟩ := asD_rep r1 ed
    obtain ⟨b, rfl, hb⟩ := dkeyT_rep d1 ek
    cases r2 with
    | @dt _ kvs _ hh dd =>
      refine .inl ⟨_, valV kvs kk, rfl, .t hh hb, ?_⟩
      rw [hasD_val dd]; exact k.flat (.bl _)
  · cases e
theorem rd_dni : Rd2 K (fun x y H Q => rDIn true x y H Q ∨ rInA X true x y H Q) dniO := fun Z H v u o p h h' o' Q za r1 r2 e k => by
  unfold dniO at e
  split at e
  · rename_i l
    obtain ⟨d, ed, e⟩ := bind_some e
    obtain ⟨kk, ek, e⟩ := bind_some e
    cases e
    obtain ⟨d1, _⟩ := asD_rep r1 ed
    cases r2 with
    | @dk _ kvs _ hh dd =>
      refine .inl ⟨_, valV kvs kk, rfl, ?_, ?_⟩
      · rw [dkey_rep d1 ek]; exact .k hh
      · rw [hasD_val dd]; exact k.flat (.bl _)
  · rename_i l
    obtain ⟨d, ed, e⟩ := bind_some e
    obtain ⟨kk, ek, e⟩ := bind_some e
    cases e
    obtain ⟨d1, _⟩ := asD_rep r1 ed
    obtain ⟨b, rfl, hb⟩ := dkeyT_rep d1 ek
    cases r2 with
    | @dt _ kvs _ hh dd =>
      refine .inl ⟨_, valV kvs kk, rfl, .t hh hb, ?_⟩
      rw [hasD_val dd]; exact k.flat (.bl _)
  · cases e
theorem op_inB (hu : X.A.units + 64 < cLine) : OpR X (compareOp .In) (fun x y H Q => rDIn false x y H Q ∨ rInA X false x y H Q) := (op_din hu).or (op_inA hu)
theorem op_niB (hu : X.A.units + 64 < cLine) : OpR X (compareOp .NotIn) (fun x y H Q => rDIn true x y H Q ∨ rInA X true x y H Q) := (op_dni hu).or (op_niA hu)
theorem rd_inB : Rd2 X.K (fun x y H Q => rDIn false x y H Q ∨ rInA X false x y H Q) inA := fun Z H v u o p h h' o' Q za r1 r2 e k => by
  by_cases c : ∃ l, p = .dk l
  · obtain ⟨l, rfl⟩ := c
    exact rd_din (X := X) (K := X.K) Z H v u o _ h h' o' Q za r1 r2 e k
  · by_cases c' : ∃ l, p = .dt l
    · obtain ⟨l, rfl⟩ := c'
      exact rd_din (X := X) (K := X.K) Z H v u o _ h h' o' Q za r1 r2 e k
    · refine .inr (rd_in Z H v u o p h h' o' Q za r1 r2 ?_ k)
      cases p <;> first | exact e | exact absurd ⟨_, rfl⟩ c | exact absurd ⟨_, rfl⟩ c'
theorem rd_niB : Rd2 X.K (fun x y H Q => rDIn true x y H Q ∨ rInA X true x y H Q) niA := fun Z H v u o p h h' o' Q za r1 r2 e k => by
  by_cases c : ∃ l, p = .dk l
  · obtain ⟨l, rfl⟩ := c
    exact rd_dni (X := X) (K := X.K) Z H v u o _ h h' o' Q za r1 r2 e k
  · by_cases c' : ∃ l, p = .dt l
    · obtain ⟨l, rfl⟩ := c'
      exact rd_dni (X := X) (K := X.K) Z H v u o _ h h' o' Q za r1 r2 e k
    · refine .inr (rd_ni Z H v u o p h h' o' Q za r1 r2 ?_ k)
      cases p <;> first | exact e | exact absurd ⟨_, rfl⟩ c | exact absurd ⟨_, rfl⟩ c'
/-! ### x[k] of anything -/
def ixA (x y : Ob) : Option Ob := match x with
  | .dk l => (asD y).bind fun d => (dkey d).bind fun k => (valD l k).bind fun z => some (.fr z)
  | .dt l => (asD y).bind fun d => (dkeyT d).bind fun k => (valD l k).bind fun z => some (.fr z)
  | .ll l => (asI y).bind fun i => (ixN' l.length i).bind fun j => (l[j]?).bind fun z => some (.lst z)
  | x => ixO x y
theorem PE.or {X : Cx} {e : Expr} {t t' : TE} (h : PE X e t) (h' : PE X e t') : PE X e (fun σ H Q => t σ H Q ∨ t' σ H Q) := ⟨fun pins s σ H Q I q => q.elim (h.run pins s σ H Q I) (h'.run pins s σ H Q I)⟩
/-- reading, maybe only borrowed -/
theorem d_ixR {a b : Expr} {fa fb : F1} (hu : X.A.units + 64 < cLine) (ha : PR X a fa) (hb : PR X b fb) (hs : PlainIx b := by intro _ _; rfl) : PR X (.Subscript a b pos) (o2 ixA fa fb) := PE.imp (PE.or (pe_ix ix_seq ha hb hs) (pe_dget (by omega) ha hb hs)) fun σ H Q h => by
  obtain ⟨Z, ρ, fp, o, S, e, k⟩ := h
  obtain ⟨x, ex, e⟩ := bind_some e
  obtain ⟨y, ey, e⟩ := bind_some e
  have two : ∀ {P : VK}, (∀ Z2 H2 v1 g1 v2 g2, RepO X.K Z2 H2 v1 x g1 → RepO X.K Z2 H2 v2 y g2 → Fr H [] Z H2 [] Z2 → True) → True := fun _ => trivial
  by_cases c : ∃ l, x = .dk l
  · obtain ⟨l, rfl⟩ := c
    obtain ⟨d, ed, e⟩ := bind_some e
    obtain ⟨kk, ek, e⟩ := bind_some e
    obtain ⟨z, ez, e⟩ := bind_some e
    cases e
    refine .inr ⟨Z, ρ, fp, _, S, ex, fun Z1 H1 v1 g1 r1 a1 => ⟨Z1, ρ, fp, y, S.still a1, ey, fun Z2 H2 v2 g2 r2 a2 => ?_⟩⟩
    obtain ⟨d1, _⟩ := asD_rep r2 ed
    cases r1.still a2 with
    | dk hh dd =>
      rcases dd.val kk with ⟨n1, _⟩ | ⟨d3, v3, n1, n2, n3⟩
      · rw [n1] at ez; cases ez
      · rw [n1] at ez; cases ez
        refine ⟨_, v3, rfl, ?_, k Z2 H2 v3 [] (.fr n3) (a1.trans a2)⟩
        rw [dkey_rep d1 ek, ← n2]; exact .k hh
  · by_cases c2 : ∃ l, x = .dt l
    · obtain ⟨l, rfl⟩ := c2
      obtain ⟨d, ed, e⟩ := bind_some e
      obtain ⟨kk, ek, e⟩ := bind_some e
      obtain ⟨z, ez, e⟩ := bind_some e
      cases e
      refine .inr ⟨Z, ρ, fp, _, S, ex, fun Z1 H1 v1 g1 r1 a1 => ⟨Z1, ρ, fp, y, S.still a1, ey, fun Z2 H2 v2 g2 r2 a2 => ?_⟩⟩
      obtain ⟨d1, _⟩ := asD_rep r2 ed
      obtain ⟨b, rfl, hb⟩ := dkeyT_rep d1 ek
      cases r1.still a2 with
      | dt hh dd =>
        rcases dd.val kk with ⟨n1, _⟩ | ⟨d3, v3, n1, n2, n3⟩
        · rw [n1] at ez; cases ez
        · rw [n1] at ez; cases ez
          refine ⟨_, v3, rfl, ?_, k Z2 H2 v3 [] (.fr n3) (a1.trans a2)⟩
          rw [← n2]; exact .t hh hb
    · by_cases c3 : ∃ l, x = .ll l
      · obtain ⟨l, rfl⟩ := c3
        obtain ⟨i, ei, e⟩ := bind_some e
        obtain ⟨j, ej, e⟩ := bind_some e
        obtain ⟨z, ez, e⟩ := bind_some e
        cases e
        refine .inl ⟨Z, ρ, fp, _, S, ex, fun Z1 H1 v1 g1 r1 a1 => ⟨Z1, ρ, fp, y, S.still a1, ey, fun Z2 H2 v2 g2 r2 a2 => ?_⟩⟩
        obtain ⟨a, bs, rfl, rfl, h3, h4⟩ := ll_of (r1.still a2)
        obtain ⟨b, vs, hb, hbv, hbd⟩ := h4.at ez
        refine .inl ⟨a, bs.map V.ref, i, .ref b, rfl, asI_rep r2 ei, .of h3, ?_, k Z2 H2 _ [b] (.lst hbv hbd) (a1.trans a2)⟩
        unfold atI
        rw [List.length_map, h4.length, ixN'_eq ej]
        show (bs.map V.ref)[j]? = _
        rw [List.getElem?_map, hb]
        rfl
      · have e : ixO x y = some o := by cases x <;> first | exact e | exact absurd ⟨_, rfl⟩ c | exact absurd ⟨_, rfl⟩ c2 | exact absurd ⟨_, rfl⟩ c3
        exact .inl (run2 (fa := fa) (fb := fb) rd_ix ⟨Z, ρ, fp, o, S, by unfold o2; rw [ex, Option.bind_some, ey, Option.bind_some]; exact e, fun Z' H' v g r _ a => k Z' H' v g r (a.less fun _ m => (nomatch m))⟩)
def ixS (x y : Ob) : Option Ob := match x with
  | .ll _ => none
  | x => ixA x y
theorem ixS_fr {x y o : Ob} (h : ixS x y = some o) : ixA x y = some o ∧ ∃ d, o = .fr d := by
  unfold ixS at h
  split at h
  · cases h
  · refine ⟨h, ?_⟩
    unfold ixA at h
    split at h
    · obtain ⟨d, ed, h⟩ := bind_some h
      obtain ⟨kk, ek, h⟩ := bind_some h
      obtain ⟨z, ez, h⟩ := bind_some h
      cases h; exact ⟨_, rfl⟩
    · obtain ⟨d, ed, h⟩ := bind_some h
      obtain ⟨kk, ek, h⟩ := bind_some h
      obtain ⟨z, ez, h⟩ := bind_some h
      cases h; exact ⟨_, rfl⟩
    · rename_i hn; exact absurd rfl (hn _)
    · obtain ⟨d, ed, h⟩ := bind_some h
      obtain ⟨kk, ek, h⟩ := bind_some h
      obtain ⟨z, ez, h⟩ := bind_some h
      cases h; exact ⟨_, rfl⟩
/-- x[k], frozen -/
theorem d_ixA {a b : Expr} {fa fb : F1} (hu : X.A.units + 64 < cLine) (ha : PR X a fa) (hb : PR X b fb) (hs : PlainIx b := by intro _ _; rfl) : DP X (.Subscript a b pos) (o2 ixS fa fb) := PE.imp (d_ixR hu ha hb hs) fun σ H Q h => by
  obtain ⟨Z, ρ, fp, o, S, e, k⟩ := h
  obtain ⟨x, ex, e⟩ := bind_some e
  obtain ⟨y, ey, e⟩ := bind_some e
  obtain ⟨e, d, rfl⟩ := ixS_fr e
  refine ⟨Z, ρ, fp, _, S, by unfold o2; rw [ex, Option.bind_some, ey, Option.bind_some]; exact e, fun Z' H' v g r a => ?_⟩
  obtain ⟨d1, rfl⟩ := asD_rep r rfl
  exact k Z' H' v [] (.fr d1) .nil a
end

/-! ## x[k] = e of anything -/
theorem PS.or {X : Cx} {e : Stmt} {t t' : TS} (h : PS X e t) (h' : PS X e t') : PS X e (fun D σ H => t D σ H ∨ t' D σ H) := ⟨fun pins s σ H Q I q => q.elim (h.run pins s σ H Q I) (h'.run pins s σ H Q I)⟩
def fPutA (i : Nat) (fk f : F1) : FS := fun ρ => match ρ[i]? with
  | some (some (.dk l)) => (f ρ).bind fun o => (fz o).bind fun d => (fk ρ).bind fun y => (asD y).bind fun z => (dkey z).bind fun k => if lt24 l.length then some (.nx (ρ.set i (some (.dk (putD l k d))))) else none
  | some (some (.dt l)) => (f ρ).bind fun o => (fz o).bind fun d => (fk ρ).bind fun y => (asD y).bind fun z => (dkeyT z).bind fun k => if lt24 l.length then some (.nx (ρ.set i (some (.dt (putD l k d))))) else none
  | _ => fSetIx i fk f ρ
section
variable {X : Cx} {B : List Nat} {pos npos ipos : Pos} {e ke : Expr} {f fk : F1} {x : Str}
theorem DKv.upd {κ : Type} {K : PySem.W.Frag} {Z : Zs} {H : Hp} {a : Addr} {o : HO} {kvs : List (κ × V)} {kds : List (κ × PyData)} (h : DKv K Z H kvs kds) (nz : ¬ Z a) (nt : ∀ xs, H a ≠ some (.tup xs)) : DKv K Z (L2.upd H a o) kvs kds := h.keep (fun _ z => z) (fun b u z e => by rw [upd_ne (fun q : b = a => nz (by rw [← q]; exact z))]; exact e) fun b xs e => by rw [upd_ne (fun q : b = a => nt xs (by rw [← q]; exact e))]; exact e
theorem s_put (i : Nat) (hu : X.A.units + 64 < cLine) (he : DP X e f) (hk : PR X ke fk) (hN : X.N[i]? = some x := by rfl) (hv : Vis X.env.scope x := by first | exact Or.inl rfl | exact Or.inr (Or.inl rfl) | exact Or.inr (Or.inr rfl)) (hd : (x == ("__debug__" : Str)) = false := by decide)
    (hcd : (x == ("__classdict__" : Str)) = false := by decide) (ha : ∀ v, assign (.Subscript (.Name x npos) ke ipos) X.env v = (do
      let ov ← holding [v] (eval (.Name x npos) X.env)
      let iv ← holding [v, ov] (eval ke X.env)
      standAt ipos
      holding [v, ov, iv] (setItem ov iv v)
      release [v, ov, iv] []) := by intro _; rfl) (hs : swapsWithSole [.Subscript (.Name x npos) ke ipos] e pos.line X.env = pure false := by rfl) (hw : swappedStores [.Subscript (.Name x npos) ke ipos] e X.env = pure none := by rfl)
    (h1 : (assignEach [.Subscript (.Name x npos) ke ipos] X.env).map (·.2) = [assign (.Subscript (.Name x npos) ke ipos) X.env] := by rfl) (hsw : swapsWith e (some (.Subscript (.Name x npos) ke ipos)) pos.line X.env = pure false := by rfl) :
    DS X B (.Assign [.Subscript (.Name x npos) ke ipos] e pos) (fPutA i fk f) := PS.imp (PS.or (s_setix (B := B) i he hk hN hv hd hcd ha hs hw h1) (ps_dput (by omega) (pe_var hN hv hd hcd) hk he hsw)) fun D σ H h => by
  obtain ⟨Z, ρ, fp, r, S, e, k⟩ := h
  unfold fPutA at e
  split at e
  · rename_i l el
    obtain ⟨o, eo, e⟩ := bind_some e
    obtain ⟨d, ed, e⟩ := bind_some e
    obtain ⟨y, ey, e⟩ := bind_some e
    obtain ⟨z, ez, e⟩ := bind_some e
    obtain ⟨kk, ek, e⟩ := bind_some e
    split at e
    · rename_i c
      cases e
      refine .inr ⟨Z, ρ, fp, o, S, eo, fun Z1 H1 v1 g1 r1 o1 a1 => ?_⟩
      have a1' := a1.frz0 o1
      have S1 := S.still a1'
      have d1 := r1.frz ed
      obtain ⟨v, g, h1, h2, _, _⟩ := S1.write el
      refine ⟨v, h1, _, ρ, fp, y, S1, ey, fun Z2 H2 v2 g2 r2 a2 => ?_⟩
      have S2 := S1.still a2
      obtain ⟨v', g', h1', h2', ow, wr⟩ := S2.write el
      rw [h1] at h1'
      cases h1'
      obtain ⟨dk2, _⟩ := asD_rep r2 ez
      cases h2' with
      | @dk a kvs _ hh dd =>
        have hl : kvs.length < sizeLine := by rw [dd.length]; exact lt24_ok c
        rw [dkey_rep dk2 ek]
        refine ⟨a, _, rfl, .k hh hl, ?_⟩
        have nz := ow.nz a List.mem_cons_self
        have nt : ∀ xs, H2 a ≠ some (.tup xs) := fun xs q => by rw [hh] at q; cases q
        obtain ⟨fp', S3, _, f3⟩ := wr _ (upd H2 a (.dK (putK kvs kk v1))) (.dk (putD l kk d)) [a] [] (Fr.upd1 ⟨_, hh⟩ List.mem_cons_self) (.dk upd_same ((dd.upd nz nt).put kk ((d1.still a2).upd nz nt))) (ow.upd1 trivial)
        exact k _ _ σ fp' S3 ((tail_fr (a1'.trans a2)).trans f3) .rfl
    · cases e
  · rename_i l el
    obtain ⟨o, eo, e⟩ := bind_some e
    obtain ⟨d, ed, e⟩ := bind_some e
    obtain ⟨y, ey, e⟩ := bind_some e
    obtain ⟨z, ez, e⟩ := bind_some e
    obtain ⟨kk, ek, e⟩ := bind_some e
    split at e
    · rename_i c
      cases e
      refine .inr ⟨Z, ρ, fp, o, S, eo, fun Z1 H1 v1 g1 r1 o1 a1 => ?_⟩
      have a1' := a1.frz0 o1
      have S1 := S.still a1'
      have d1 := r1.frz ed
      obtain ⟨v, g, h1, h2, _, _⟩ := S1.write el
      refine ⟨v, h1, _, ρ, fp, y, S1, ey, fun Z2 H2 v2 g2 r2 a2 => ?_⟩
      have S2 := S1.still a2
      obtain ⟨v', g', h1', h2', ow, wr⟩ := S2.write el
      rw [h1] at h1'
      cases h1'
      obtain ⟨dk2, _⟩ := asD_rep r2 ez
      obtain ⟨b, rfl, hb⟩ := dkeyT_rep dk2 ek
      cases h2' with
      | @dt a kvs _ hh dd =>
        have hl : kvs.length < sizeLine := by rw [dd.length]; exact lt24_ok c
        refine ⟨a, _, rfl, .t hh hb hl, ?_⟩
        have nz := ow.nz a List.mem_cons_self
        have nt : ∀ xs, H2 a ≠ some (.tup xs) := fun xs q => by rw [hh] at q; cases q
        obtain ⟨fp', S3, _, f3⟩ := wr _ (upd H2 a (.dT (putK kvs kk v1))) (.dt (putD l kk d)) [a] [] (Fr.upd1 ⟨_, hh⟩ List.mem_cons_self) (.dt upd_same ((dd.upd nz nt).put kk ((d1.still a2).upd nz nt))) (ow.upd1 trivial)
        exact k _ _ σ fp' S3 ((tail_fr (a1'.trans a2)).trans f3) .rfl
    · cases e
  · exact .inl ⟨Z, ρ, fp, r, S, e, k⟩
end
end DL

namespace DL
open PySem PySem.Spec PyProof.Rows L2

/-! ## sorted, list of a table -/
section
variable {X : Cx} {pins : List (Addr × Obj)} {σ : L2.St} {H : Hp} {s : Shared}
mutual
theorem reads_there {h : Heap} : ∀ {v : Value} {d : PyData} {as : List Addr}, Reads h v d as → ∀ a ∈ as, ∃ o, h.get? a = some o
  | _, _, _, .none, _, m => (nomatch m)
  | _, _, _, .bool _, _, m => (nomatch m)
  | _, _, _, .int _ _, _, m => (nomatch m)
  | _, _, _, .str _ _, _, m => (nomatch m)
  | _, _, _, .list e _ _ r, x, m => by
    rcases List.mem_cons.mp m with rfl | m
    · exact ⟨_, e⟩
    · exact readsAll_there r x m
  | _, _, _, .tuple _ _ _ r, x, m => readsAll_there r x m
  | _, _, _, .dict e _ _ r r2, x, m => by
    rcases List.mem_append.mp m with m | m
    · rcases List.mem_cons.mp m with rfl | m
      · exact ⟨_, e⟩
      · exact readsAll_there r x m
    · exact readsAll_there r2 x m
theorem readsAll_there {h : Heap} : ∀ {v : List Value} {d : List PyData} {as : List Addr}, ReadsAll h v d as → ∀ a ∈ as, ∃ o, h.get? a = some o
  | _, _, _, .nil, _, m => (nomatch m)
  | _, _, _, .cons r r2, x, m => by
    rcases List.mem_append.mp m with m | m
    · exact reads_there r x m
    · exact readsAll_there r2 x m
end
/-- the items that a thing gives, as a list -/
abbrev Gives (X : Cx) (s : Shared) (r : Addr) (zs : List (PyData × V)) : Prop := ∀ (R : List Value → Shared → Prop) (E : Value → Shared → Prop),
  (∀ (h' : Heap) (tk : Nat) (acc : List Value), (∀ b o, s.heap.get? b = some o → h'.get? b = some o) → PySem.W.EachIs (fun u z => RelV z.2 u ∧ ∃ as, Reads s.heap u z.1 as) acc zs → R acc { s with heap := h', toks := tk }) → wpAny (model X.prog X.w) X.A.in1 (collect (.ref r)) R E s
theorem sort_src {r : Addr} {Q : VK} (hu : X.A.units + 64 < cLine) (I : Inv X pins σ H s) (zs : List (PyData × V)) (gv : Gives X s r zs) (hn : zs.length ≤ sizeLine) (ok : SortOk (zs.map (·.1)))
    (q : ∀ (os : List (PyData × V)) (p : Addr), os.Perm zs → os.map (·.1) = isort (zs.map (·.1)) → H p = none → Q (.ref p) (upd H p (.lst (os.map (·.2))))) :
    wpAny (model X.prog X.w) X.A (call (.builtin "sorted") [.ref r]) (EP X pins σ Q) X.xe s := by
  refine Calls.call_function_entry PyProof.Rows.kind_sorted PyProof.Rows.plain_sorted PyProof.Rows.entry_sorted (PyProof.Rows.args_sorted1 _) ?_
  unfold Builtin.«sorted»
  refine wpAny_bind (m := checkCount "sorted" 1 1 _) (wpAny_pure ?_)
  refine wpAny_bind (gv _ _ fun h' tk acc hk e0 => ?_)
  have hal : acc.length = zs.length := e0.length
  have I1 : Inv X pins σ H { s with heap := h', toks := tk } := I.kept hk
  refine wpAny_bind (wpAny_newList ?_ (by rw [hal]; exact hn))
  have hoL : (h'.push (seqObj "list" acc.toArray 0)).get? h'.objs.size = some (seqObj "list" acc.toArray 0) := Heap.get?_push_size _ rfl
  have er : PySem.W.EachIs (fun u (z : PyData × V) => ∃ as, Reads (h'.push (seqObj "list" acc.toArray 0)) u z.1 as ∧ h'.objs.size ∉ as) acc zs := e0.mono fun u z ⟨_, as, r⟩ => by
    refine ⟨as, PyProof.Rows.Reads.keeps (fun b o e => Heap.get?_push_of_some _ (hk b o e)) r, fun m => ?_⟩
    obtain ⟨o, e⟩ := reads_there r _ m
    exact absurd (Heap.lt_size (hk _ _ e)) (Nat.lt_irrefl _)
  have eR : PySem.W.EachIs (fun u (z : PyData × V) => RelV z.2 u) acc zs := e0.mono fun u z h => h.1
  have alk : PySem.W.AllAlike (zs.map fun z => z.1) := fun d m d' m' => ok.al d m d' m'
  show wpAny _ _ _ _ _ { s with heap := h'.push (seqObj "list" acc.toArray 0), toks := tk }
  refine wpAny_bind (wpAny_holding (PySem.W.list_sort_data (s := { s with heap := h'.push (seqObj "list" acc.toArray 0), toks := tk }) hoL eR er alk ok.so hn (fun z m => ?_) fun out ho eo => ?_))
  · have := ok.dp z.1 (List.mem_map.mpr ⟨z, m, rfl⟩)
    show X.A.units + 1 + 1 + z.1.depth < cLine
    omega
  · obtain ⟨e', he'⟩ := PyProof.Rows.sortedHeap_at (vs := acc) (out := List.toArray out) hoL
    have perm := List.mergeSort_perm zs (PySem.W.dataLe false fun z : PyData × V => z.1)
    have hv : Vals ((zs.mergeSort (PySem.W.dataLe false fun z : PyData × V => z.1)).map (·.2)) out := each_of eo fun _ _ h => h
    have hlen : ((zs.mergeSort (PySem.W.dataLe false fun z : PyData × V => z.1)).map (·.2)).length ≤ sizeLine := by
      rw [List.length_map, perm.length_eq]; exact hn
    have e1 := List.map_mergeSort (r := PySem.W.dataLe false fun z : PyData × V => z.1) (s := PySem.W.dataLe false fun d : PyData => d) (f := (·.1)) (l := zs) fun a _ b _ => rfl
    refine wpAny_pure ⟨_, rfl, .ref h'.objs.size, _, I1.laid (t' := tk) (a := h'.objs.size) (o := .lst ((zs.mergeSort (PySem.W.dataLe false fun z : PyData × V => z.1)).map (·.2))) (fun b u e => ?_) (Nat.le_refl _) ⟨hlen, out, e', hv, he'⟩, rfl,
      q _ _ perm (by rw [e1]; exact sort_eq ok) (I1.hok.fresh (Nat.le_refl _))⟩
    have hb : b < h'.objs.size := Heap.lt_size e
    rw [PyProof.Rows.sortedHeap_old (Nat.ne_of_lt hb) (by rw [size_push']; exact Nat.lt_succ_of_lt hb)]
    exact Heap.get?_push_of_some _ e
theorem gives_kdl {T : String} {r d : Addr} {n : Nat} {P : Nat → Value → Prop} {OK : Heap → Prop} {zs : List (PyData × V)} (Kd : PySem.W.KdlSrc X.prog X.w T r d n P OK) (hc : X.calm = true) (I : Inv X pins σ H s) (hok : OK s.heap) (hn : n ≤ sizeLine)
    (he : ∀ acc : Array Value, ItemsOf P acc n → PySem.W.EachIs (fun u z => RelV z.2 u ∧ ∃ as, Reads s.heap u z.1 as) acc.toList zs) : Gives X s r zs := fun R E h =>
  PySem.W.kdu_collect (A := X.A.in1) Kd (I.ok.hd hc) hok hn fun h' tk acc hk hacc => h h' tk acc.toList hk (he acc hacc)
/-- a tuple gives its items -/
theorem gives_tup {r : Addr} {its : List Value} {zs : List (PyData × V)} (ht : IsTup s.heap r its.toArray) (hn : its.length ≤ sizeLine) (he : PySem.W.EachIs (fun u z => RelV z.2 u ∧ ∃ as, Reads s.heap u z.1 as) its zs) : Gives X s r zs := fun R E h => by
  obtain ⟨o, ho, hc, n, hd⟩ := id ht
  generalize hH : (s.heap.push (seqObj "list" #[] 0)) = H1
  have new : H1.get? s.heap.objs.size = some (seqObj "list" #[] 0) := by rw [← hH]; exact Heap.get?_push_size _ rfl
  have old : ∀ b u, s.heap.get? b = some u → H1.get? b = some u := fun b u e => by rw [← hH]; exact Heap.get?_push_of_some _ e
  unfold collect
  refine wpAny_bind (wpAny_runValue (codeAny_builtin entry_proto_collect' ?_))
  show wpAny _ _ (do again (.builtin "list.__iadd__" ⟨[← newList [], .ref r], []⟩)) _ _ s
  refine wpAny_bind (wpAny_newList (wpAny_pure ⟨Code.quiet_builtin _ (by decide +kernel), codeAny_builtin entry_list_iadd' ?_⟩))
  show wpAny _ _ (Builtin.List.listExtendWith (.ref s.heap.objs.size) (.ref r) (.ref s.heap.objs.size)) _ _ { s with heap := s.heap.push (seqObj "list" #[] 0) }
  rw [hH]
  unfold Builtin.List.listExtendWith
  refine wpAny_bind (wpAny_typeOf (T := "tuple") ⟨o, old _ _ ho, hc⟩ ?_)
  rw [if_pos (by rw [show (Value.type "tuple" == Value.type "tuple") = true by rfl]; simp)]
  refine wpAny_bind (listItems_at (old _ _ ho) hd (wpAny_bind (listItems_at new rfl ?_)))
  rw [if_neg (by simp)]
  refine wpAny_bind (listUpdate_at new rfl (wpAny_pure ?_) (Nat.zero_le _) (by simp only [Array.size_append, List.size_toArray, List.length_nil]; omega))
  show wpAny (model X.prog X.w) X.A.in1 (do
    match (← load s.heap.objs.size).data with
    | .seq xs _ => pure xs.toList
    | _ => unsupported "internal:collect") R E { s with heap := H1.update s.heap.objs.size (Obj.mapSeq (· ++ its.toArray)) }
  refine wpAny_bind (wpAny_load (get?_update_seq new _) ?_)
  show wpAny _ _ (pure ((#[] : Array Value) ++ its.toArray).toList) R E _
  rw [show ((#[] : Array Value) ++ its.toArray).toList = its by simp]
  refine wpAny_pure (h _ s.toks its (fun b u e => ?_) he)
  rw [Heap.get?_update_ne _ _ _ _ (Nat.ne_of_lt (Heap.lt_size e))]
  exact old b u e
theorem key_reads {h : Heap} {k : Key} {u : Value} (r : RelV (kV k) u) : Reads h u (kD k) [] := by
  cases k with
  | inl i => obtain ⟨t, rfl⟩ := (show ∃ t, u = Value.int i t from r); exact .int i t
  | inr x => obtain ⟨t, rfl⟩ := (show ∃ t, u = Value.str x t from r); exact .str x t
theorem keys_reads {h : Heap} : ∀ {ks : List Key} {us : List Value}, Vals (ks.map kV) us → ReadsAll h us (ks.map kD) []
  | [], _, r => by cases r; exact .nil
  | k :: ks, _, r => by
    cases r with
    | cons r t => exact ReadsAll.cons (as := []) (bs := []) (key_reads r) (keys_reads t)
theorem keyT_reads (I : Inv X pins σ H s) {b : Addr} {ks : List Key} (hb : H b = some (.tup (ks.map kV))) : Reads s.heap (.ref b) (kTD ks) [] := by
  obtain ⟨_, its, r, o, h1, h2, n, h3⟩ := (show ObjOk X.prog X.w H s.heap b (.tup (ks.map kV)) from I.hok b _ hb)
  exact .tuple h1 h2 h3 (keys_reads (by simpa using r))
end
section
variable {X : Cx} {K : PySem.W.Frag}
abbrev rSortK : List V → Hp → VK → Prop := fun vs H Q => ∃ (a : Addr) (kvs : List (Key × V)), vs = [.ref a] ∧ Rd H a (.dK kvs) ∧ SortOk ((kvs.map fun p => (kD p.1, kV p.1)).map (·.1)) ∧
  ∀ (os : List (PyData × V)) (p : Addr), os.Perm (kvs.map fun p => (kD p.1, kV p.1)) → os.map (·.1) = isort ((kvs.map fun p => (kD p.1, kV p.1)).map (·.1)) → H p = none → Q (.ref p) (upd H p (.lst (os.map (·.2))))
theorem each_keys {h : Heap} : ∀ {vs : List (Key × Value)} {us : List Value}, Vals (vs.map fun p => kV p.1) us → PySem.W.EachIs (fun u (z : PyData × V) => RelV z.2 u ∧ ∃ as, Reads h u z.1 as) us (vs.map fun p => (kD p.1, kV p.1))
  | [], _, r => by cases r; exact .nil
  | p :: vs, _, r => by
    cases r with
    | cons r t => exact .cons ⟨r, [], key_reads r⟩ (each_keys t)
theorem op_sortK (hc : X.calm = true) (hu : X.A.units + 64 < cLine) : CallR X (.builtin "sorted") rSortK := by
  intro pins s σ H xs us Q I r q
  obtain ⟨a, kvs, ex, hd, ok, q⟩ := q
  subst ex
  rw [Vals.ref1 r]
  obtain ⟨z, lo, vs, rel, dd⟩ := dk_rd I.hok hd
  obtain ⟨ep, hat⟩ := dd.dictAt
  have ek : (kvs.map fun p => (kD p.1, kV p.1)) = vs.map fun p => (kD p.1, kV p.1) := by
    have e := congrArg (List.map fun k => (kD k, kV k)) rel.keys
    rw [List.map_map, List.map_map] at e
    exact e
  rw [ek] at ok q
  have zl : vs.length ≤ sizeLine := by rw [← rel.length]; exact z
  refine sort_src hu I (vs.map fun p => (kD p.1, kV p.1)) (gives_kdl (PySem.W.kdl_dict (knd := mixKind X.prog X.w) (kvs := vs) (ep := ep) lo) hc I hat zl fun acc hacc => ?_) (by rw [List.length_map]; exact zl) ok q
  exact each_keys (keys_at (by rw [Array.length_toList]; exact hacc.1) fun j v e => hacc.2 j v (by rw [← Array.getElem?_toList]; exact e))
abbrev rSortT : List V → Hp → VK → Prop := fun vs H Q => ∃ (a : Addr) (kvs : List (List Key × V)), vs = [.ref a] ∧ Rd H a (.dT kvs) ∧ SortOk (kvs.map fun p => kTD p.1) ∧
  ∀ (zs os : List (PyData × V)) (p : Addr), (∀ z ∈ zs, ∃ (b : Addr) (ks : List Key), z = (kTD ks, .ref b) ∧ H b = some (.tup (ks.map kV))) → os.Perm zs → os.map (·.1) = isort (kvs.map fun p => kTD p.1) → H p = none → Q (.ref p) (upd H p (.lst (os.map (·.2))))
theorem each_keysT {P : Program} {w : World} {H : Hp} {h : Heap} : ∀ {kvs : List (List Key × V)} {ks : List (List Key × Addr × Value)}, KT H kvs ks → (kvs.map fun p => kTD p.1) = (ks.map fun x => ((kTD x.1, V.ref x.2.1) : PyData × V)).map (·.1)
  | _, _, .nil => rfl
  | _, _, .cons h t => by
    rw [List.map_cons, List.map_cons, List.map_cons, each_keysT (P := P) (w := w) (h := ‹Heap›) t, h.1]
theorem kt_mem {H : Hp} : ∀ {kvs : List (List Key × V)} {ks : List (List Key × Addr × Value)}, KT H kvs ks → ∀ x ∈ ks, H x.2.1 = some (.tup (x.1.map kV))
  | _, _, .nil, _, m => (nomatch m)
  | _, _, .cons h t, x, m => by
    rcases List.mem_cons.mp m with rfl | m
    · rw [← h.1]; exact h.2.1
    · exact kt_mem t x m
theorem op_sortT (hc : X.calm = true) (hu : X.A.units + 64 < cLine) : CallR X (.builtin "sorted") rSortT := by
  intro pins s σ H xs us Q I r q
  obtain ⟨d, kvs, ex, hd, ok, q⟩ := q
  subst ex
  rw [Vals.ref1 r]
  obtain ⟨z, hs, ks, pr, o, es, ep, ho, hx, hdt, he, hn⟩ := (show ObjOk X.prog X.w H s.heap d (.dT kvs) from hd.ok I.hok)
  have l1 : es.size = ks.length := size_of_entries he
  have l2 : kvs.length = ks.length := Paired.length pr
  have ek := each_keysT (P := X.prog) (w := X.w) (h := s.heap) pr
  have mm := kt_mem pr
  refine sort_src hu I (ks.map fun x => ((kTD x.1, V.ref x.2.1) : PyData × V)) (gives_kdl (kdl_raw hs hx hdt) hc I ho (by omega) fun acc it => ?_) (by rw [List.length_map]; omega) (by rw [← ek]; exact ok) fun os p pm e np => q _ os p (fun z m => ?_) pm (by rw [ek]; exact e) np
  · have ea : acc.toList = ks.map fun x => Value.ref x.2.1 := by
      refine List.ext_getElem? fun j => ?_
      rw [List.getElem?_map]
      cases hj : acc.toList[j]? with
      | none =>
        have h1 := List.getElem?_eq_none_iff.mp hj
        have hl : acc.toList.length = ks.length := by rw [Array.length_toList, it.1, l1]
        rw [List.getElem?_eq_none (by omega)]; rfl
      | some v =>
        obtain ⟨en, hen, hv⟩ := it.2 j v (by rw [← Array.getElem?_toList]; exact hj)
        have qe : es[j]? = (ks[j]?).map (entryOfKey (tupleKind (mixKind X.prog X.w))) := by
          rw [← Array.getElem?_toList, he, List.getElem?_map]
        rw [hen] at qe
        cases hb : ks[j]? with
        | none => rw [hb] at qe; cases qe
        | some b =>
          rw [hb] at qe
          have e2 : en = entryOfKey (tupleKind (mixKind X.prog X.w)) b := Option.some.inj qe
          rw [hv, e2]; rfl
    rw [ea]
    have all : ∀ l : List (List Key × Addr × Value), (∀ x ∈ l, H x.2.1 = some (.tup (x.1.map kV))) → PySem.W.EachIs (fun u (z : PyData × V) => RelV z.2 u ∧ ∃ as, Reads s.heap u z.1 as) (l.map fun x => Value.ref x.2.1) (l.map fun x => ((kTD x.1, V.ref x.2.1) : PyData × V)) := by
      intro l
      induction l with
      | nil => intro _; exact .nil
      | cons x l ih => intro m; exact .cons ⟨rfl, [], keyT_reads I (m x List.mem_cons_self)⟩ (ih fun y my => m y (List.mem_cons_of_mem _ my))
    exact all ks mm
  · obtain ⟨x, mx, rfl⟩ := List.mem_map.mp m
    exact ⟨x.2.1, x.1, rfl, mm x mx⟩
abbrev rSortTup (K : PySem.W.Frag) : List V → Hp → VK → Prop := fun vs H Q => ∃ (a : Addr) (xs : List V) (l : List PyData), vs = [.ref a] ∧ SqT K H a xs ∧ DpAll K H xs l ∧ SortOk l ∧
  ∀ (os : List (PyData × V)) (p : Addr), os.Perm (l.zip xs) → os.map (·.1) = isort l → H p = none → Q (.ref p) (upd H p (.lst (os.map (·.2))))
theorem DpAll.len {H : Hp} : ∀ {xs : List V} {l : List PyData}, DpAll K H xs l → xs.length = l.length := fun h => by
  induction h using DpAll.rec (motive_1 := fun _ _ _ => True) with
  | nil => rfl
  | cons _ _ _ ih => simp [ih]
  | _ => trivial
theorem op_sortTup (hu : X.A.units + 64 < cLine) : CallR X (.builtin "sorted") (rSortTup X.K) := by
  intro pins s σ H vs us Q I r q
  obtain ⟨a, xs, l, ex, hs, hd, ok, q⟩ := q
  subst ex
  rw [Vals.ref1 r]
  obtain ⟨its, rv, ht, hz⟩ := I.tuple hs
  have hl := DpAll.len hd
  have z1 : (l.zip xs).map (·.1) = l := List.map_fst_zip (by omega)
  have zl : (l.zip xs).length ≤ sizeLine := by rw [List.length_zip]; omega
  refine sort_src hu I (l.zip xs) (gives_tup ht (by rw [← rv.length]; exact hz) ?_) zl (by rw [z1]; exact ok) fun os p pm e np => q os p pm (by rw [z1] at e; exact e) np
  have each : ∀ {us : List Value} {vs : List V} {ds : List PyData}, Vals vs us → DpAll X.K H vs ds → PySem.W.EachIs (fun u (z : PyData × V) => RelV z.2 u ∧ ∃ as, Reads s.heap u z.1 as) us (ds.zip vs) := by
    intro us vs ds rv hd
    induction rv generalizing ds with
    | nil => cases hd; exact .nil
    | cons r1 _ ih =>
      cases hd with
      | cons h1 h2 => exact .cons ⟨r1, Dp.reads I _ _ _ h1 r1⟩ (ih h2)
  exact each rv hd
def keysK (l : List (Key × PyData)) : List PyData := l.map fun p => kD p.1
def keysT (l : List (List Key × PyData)) : List PyData := l.map fun p => kTD p.1
def sortA (x : Ob) : Option Ob := match x with
  | .dk l => if okSort (keysK l) then some (.lst (isort (keysK l))) else none
  | .dt l => if okSort (keysT l) then some (.lst (isort (keysT l))) else none
  | .fr (.tuple l) => if okSort l then some (.lst (isort l)) else none
  | x => sortO x
theorem dpzs_all {Z : Zs} {H : Hp} : ∀ {os : List (PyData × V)}, (∀ z ∈ os, DpZ K Z H z.2 z.1) → DpZs K Z H (os.map (·.2)) (os.map (·.1))
  | [], _ => .nil
  | z :: os, m => .cons (m z List.mem_cons_self) (dpzs_all fun y h => m y (List.mem_cons_of_mem _ h))
theorem ktd_rep {Z : Zs} {H : Hp} {b : Addr} {ks : List Key} (h : H b = some (.tup (ks.map kV))) : DpZ K Z H (.ref b) (kTD ks) := by
  refine .tup h ?_
  have all : ∀ ks : List Key, DpZs K Z H (ks.map kV) (ks.map kD) := by
    intro ks
    induction ks with
    | nil => exact .nil
    | cons k ks ih => exact .cons (kD_rep Z H k) ih
  exact all ks
abbrev rSortAll (K : PySem.W.Frag) : List V → Hp → VK → Prop := fun vs H Q => rSortK vs H Q ∨ (rSortT vs H Q ∨ (rSortTup K vs H Q ∨ rSortA K vs H Q))
theorem op_sortAll (hc : X.calm = true) (hu : X.A.units + 64 < cLine) : CallR X (.builtin "sorted") (rSortAll X.K) := (op_sortK hc hu).or ((op_sortT hc hu).or ((op_sortTup hu).or (op_sortA hu)))
theorem keysK_eq {κ : Type} [DecidableEq κ] {Z : Zs} {H : Hp} {kvs : List (κ × V)} {kds : List (κ × PyData)} (f : κ → PyData) (h : DKv K Z H kvs kds) : (kvs.map fun p => f p.1) = kds.map fun p => f p.1 := by
  have e := congrArg (List.map f) h.keys
  rw [List.map_map, List.map_map] at e
  exact e
theorem rd_sortAll : RdL K (rSortAll K) (g1 sortA) := fun Z H vs os o' Q za rs e k => by
  obtain ⟨x, rfl, e2⟩ := g1_some e
  clear e
  have e := e2
  clear e2
  unfold sortA at e
  split at e
  · rename_i l
    obtain ⟨c, rfl⟩ := ite_ob e
    cases rs with
    | cons r t =>
      cases t
      cases r with
      | @dk a kvs _ h d =>
        have ek : ((kvs.map fun p => (kD p.1, kV p.1)).map (·.1)) = keysK l := by
          rw [List.map_map]; exact keysK_eq kD d
        refine .inl ⟨_, _, rfl, .of h, by rw [ek]; exact okSort_ok c, fun os p pm eo np => ?_⟩
        rw [ek] at eo
        have dz : DpZs K Z H (os.map (·.2)) (os.map (·.1)) := dpzs_all fun z m => by
          obtain ⟨p, _, rfl⟩ := List.mem_map.mp (pm.mem_iff.mp m)
          exact kD_rep Z H p.1
        rw [eo] at dz
        exact k.lst dz za p np
  · rename_i l
    obtain ⟨c, rfl⟩ := ite_ob e
    cases rs with
    | cons r t =>
      cases t
      cases r with
      | @dt a kvs _ h d =>
        have ek : (kvs.map fun p => kTD p.1) = keysT l := keysK_eq kTD d
        refine .inr (.inl ⟨_, _, rfl, .of h, by rw [ek]; exact okSort_ok c, fun zs os p mz pm eo np => ?_⟩)
        rw [ek] at eo
        have dz : DpZs K Z H (os.map (·.2)) (os.map (·.1)) := dpzs_all fun z m => by
          obtain ⟨b, ks, rfl, hb⟩ := mz z (pm.mem_iff.mp m)
          exact ktd_rep hb
        rw [eo] at dz
        exact k.lst dz za p np
  · rename_i l
    obtain ⟨c, rfl⟩ := ite_ob e
    cases rs with
    | cons r t =>
      cases t
      obtain ⟨a, xs, rfl, hs, hd⟩ := asTup_rep r rfl
      refine .inr (.inr (.inl ⟨a, xs, l, rfl, hs, hd.dp, okSort_ok c, fun os p pm eo np => ?_⟩))
      have dz : DpZs K Z H (os.map (·.2)) (os.map (·.1)) := hd.of_ix fun z m => by
        obtain ⟨i, hi⟩ := List.mem_iff_getElem?.mp (pm.mem_iff.mp m)
        have q := List.getElem?_zip_eq_some.mp hi
        exact ⟨i, q.2, q.1⟩
      rw [eo] at dz
      exact k.lst dz za p np
  · exact .inr (.inr (.inr (rd_sort Z H vs _ o' Q za rs (show g1 sortO [_] = some o' from e) k)))
end
end DL

namespace DL
open PySem PySem.Spec PyProof.Rows L2

/-! ## tables put together -/
section
variable {κ : Type} [DecidableEq κ]
def mergeV (kvs : List (κ × V)) : List (κ × V) → List (κ × V)
  | [] => kvs
  | p :: r => mergeV (putK kvs p.1 p.2) r
variable {K : PySem.W.Frag} {Z : Zs} {H : Hp}
theorem DKv.puts {more : List (κ × V)} {moreD : List (κ × PyData)} (h : DKv K Z H more moreD) : ∀ {kvs : List (κ × V)} {kds : List (κ × PyData)}, DKv K Z H kvs kds → DKv K Z H (mergeV kvs more) (putsD kds moreD) := by
  induction h with
  | nil => intro _ _ q; exact q
  | cons r _ ih => intro _ _ q; exact ih (q.put _ r)
theorem mergeV_length : ∀ (more kvs : List (κ × V)), (mergeV kvs more).length ≤ kvs.length + more.length
  | [], kvs => by show kvs.length ≤ kvs.length + 0; omega
  | p :: r, kvs => by
    have h1 := mergeV_length r (putK kvs p.1 p.2)
    have h2 := length_putK kvs p.1 p.2
    show (mergeV (putK kvs p.1 p.2) r).length ≤ _
    rw [List.length_cons]; omega
end
theorem mergeK_eq : ∀ (more kvs : List (Key × V)), mergeK kvs more = mergeV kvs more
  | [], _ => rfl
  | p :: r, kvs => mergeK_eq r (putK kvs p.1 p.2)
theorem kv_merge {more : List (Key × V)} {rs : List (Key × Value)} (r : KV more rs) : ∀ {kvs : List (Key × V)} {vs : List (Key × Value)}, KV kvs vs → KV (mergeV kvs more) (merged vs rs) := fun {kvs vs} q => by
  rw [← mergeK_eq]; exact KV.merge r q
theorem kt_merge {H : Hp} {more : List (List Key × V)} {ys : List (List Key × Addr × Value)} (r : KT H more ys) : ∀ {kvs : List (List Key × V)} {xs : List (List Key × Addr × Value)}, KT H kvs xs → KT H (mergeV kvs more) (storedAllH xs ys) := by
  induction r with
  | nil => intro _ _ q; exact q
  | @cons p q ps qs h t ih =>
    intro kvs xs r0
    have e : KT H (putK kvs p.1 p.2) (storedH xs q.1 q.2.1 q.2.2) := by
      rw [← h.1]
      exact r0.put p.1 h.2.1 h.2.2
    exact ih e
section
variable {X : Cx}
abbrev rUpd : V → List V → Hp → VK → Prop := fun x xs H Q => ∃ (a b : Addr), x = .ref a ∧ xs = [.ref b] ∧ a ≠ b ∧
  ((∃ kvs more : List (Key × V), H a = some (.dK kvs) ∧ H b = some (.dK more) ∧ kvs.length + more.length ≤ sizeLine ∧ Q .non (upd H a (.dK (mergeV kvs more)))) ∨
   ∃ kvs more : List (List Key × V), H a = some (.dT kvs) ∧ H b = some (.dT more) ∧ kvs.length + more.length ≤ sizeLine ∧ (kvs ≠ [] ∨ more.length ≤ 1) ∧ Q .non (upd H a (.dT (mergeV kvs more))))
theorem mt_upd (hu : X.A.units + 64 < cLine) : MtR X "dict.update" rUpd := by
  intro pins s σ H x xs v us Q I rx rxs h
  obtain ⟨a, b, rfl, rfl, ne, h⟩ := h
  cases rx
  obtain ⟨u, rfl, r1⟩ := vals1 rxs
  cases r1
  rcases h with ⟨kvs, more, ha, hb, hz, q⟩ | ⟨kvs, more, ha, hb, hz, hap, q⟩
  · obtain ⟨z1, d1, vs, rel1, dd1⟩ := dk_of I.hok ha
    obtain ⟨z2, d2, ws, rel2, dd2⟩ := dk_of I.hok hb
    refine call_meetsIn PySem.F.slot_dict_update dd1.typeIs PySem.F.entry_dict_update (PySem.F.args_dict_update_2 _ _) (meets_dict_update (mixKind X.prog X.w) a b ne d2)
      ⟨vs, ws, dd1, dd2, by rw [← rel1.length, ← rel2.length]; exact hz, fun h' dd' _ hs => ?_⟩
    have he : ∃ q, h'.get? a = some q := let ⟨q, _, _, hq, _⟩ := dd'; ⟨q, hq⟩
    exact ⟨.non, _, d_write (t' := s.toks) I (by rw [ha]; exact True.intro) hs he (dk_new (Nat.le_trans (mergeV_length more kvs) hz) d1 (kv_merge rel2 rel1) dd'), rfl, q⟩
  · obtain ⟨z1, d1, vs, rel1, dd1⟩ := dt_of I.hok ha
    obtain ⟨z2, d2, ws, rel2, dd2⟩ := dt_of I.hok hb
    refine call_update_dictH (knd := tupleKind (mixKind X.prog X.w)) (tupleKind_room_in1 (by omega)) ne d2 dd1 dd2 ?_ (by rw [← Paired.length rel1, ← Paired.length rel2]; exact hz) fun h' dd' _ hs => ?_
    · rcases hap with n | n
      · refine .inl fun e => n ?_
        have hl := Paired.length rel1
        rw [e] at hl
        exact List.length_eq_zero_iff.mp hl
      · refine .inr ⟨fun x m => (tupleKind_stays (knd := mixKind X.prog X.w)).tuple (s := s) (k := x.1) ?_, ?_⟩
        · obtain ⟨_, _, _, _, _, _, _, his, _⟩ := dd2
          exact his x m
        · have hl := Paired.length rel2
          rw [hl] at n
          match ws, n with
          | [], _ => exact List.nodup_nil
          | [_], _ => simp
          | _ :: _ :: _, n => simp at n
    · obtain ⟨o, es, ep, hq, h2, h3, h4, _, h5⟩ := dd'
      refine ⟨.non, _, d_write (t' := s.toks) (ob := .dT (mergeV kvs more)) I (by rw [ha]; exact True.intro) hs ⟨o, hq⟩ ⟨Nat.le_trans (mergeV_length more kvs) hz, d1, _, (kt_merge rel2 rel1).keeps fun c ys ec => ?_, o, es, ep, hq, h2, h3, h4, h5⟩, rfl, q⟩
      rw [upd_ne (ne_of ec ha (fun z => nomatch z))]
      exact ec
def fUpd (i : Nat) (f : F1) : FS := fun ρ => (f ρ).bind fun o => match ρ[i]?, o with
  | some (some (.dk l)), .dk m => if lt24 (l.length + m.length) then some (.nx (ρ.set i (some (.dk (putsD l m))))) else none
  | some (some (.dt l)), .dt m => if (!l.isEmpty || Nat.ble m.length 1) && lt24 (l.length + m.length) then some (.nx (ρ.set i (some (.dt (putsD l m))))) else none
  | _, _ => none
variable {B : List Nat} {pos apos cpos npos : Pos} {e : Expr} {f : F1} {x : Str}
theorem Rst.gone {H H' : Hp} {Z Z' : Zs} {g : List Addr} {a : Addr} {o : HO} (h : H a = some o) (fr : Fr H [] Z H' g Z') : a ∉ g := fun m => (nomatch (fr.new a o h m))
theorem s_update (i : Nat) (hu : X.A.units + 64 < cLine) (he : DP X e f) (hN : X.N[i]? = some x := by rfl) (hv : Vis X.env.scope x := by first | exact Or.inl rfl | exact Or.inr (Or.inl rfl) | exact Or.inr (Or.inr rfl)) (hd : (x == ("__debug__" : Str)) = false := by decide)
    (hcd : (x == ("__classdict__" : Str)) = false := by decide) (hfew : ((backTo cpos (starEach [e] X.env)).all (fun x => !x.1) && (backToKw cpos (keywordEach [] X.env)).all (fun x => x.1.isSome) && decide (([e] : List Expr).length + ([] : List Keyword).length + (if ([] : List Keyword).isEmpty then 0 else 1) < 30)) = true := by rfl) (hln : (apos.endLine == cpos.line) = true := by rfl) (hs : starEach [e] X.env = (false, eval e X.env) :: starEach [] X.env := by rfl) (hq : swapsWith (.Call (.Attribute (.Name x npos) "update" apos) [e] [] cpos) none pos.line X.env = pure false := by rfl) :
    DS X B (.Expr (.Call (.Attribute (.Name x npos) "update" apos) [e] [] cpos) pos) (fUpd i f) := PS.imp (ps_expr (pe_bm PySem.F.plainAttrs_dict PySem.F.slot_dict_update PySem.F.type_dict_update (mt_upd hu) (pe_var hN hv hd hcd) (pa_cons he pa_nil hs) (hfew := hfew) (hline := hln) (hs := hs)) hq) fun D σ H h => by
  obtain ⟨Z, ρ, fp, r, S, e, k⟩ := h
  obtain ⟨o, eo, e⟩ := bind_some e
  split at e
  · rename_i l m el
    split at e
    · rename_i c
      cases e
      have c2 := lt24_ok c
      obtain ⟨v, g, h1, h2, _, _⟩ := S.write el
      cases h2 with
      | @dk a kvs _ hh dd =>
        refine ⟨.ref a, h1, .inr (.inr (.inl ⟨rfl, .inl ⟨_, hh⟩⟩)), Z, ρ, fp, _, S, eo, fun Z1 H1 v1 g1 r1 o1 a1 => ?_⟩
        have na : a ∉ g1 := Rst.gone hh a1
        have a1' : Fr H [] Z H1 [] Z1 := a1.less fun _ m => (nomatch m)
        have S1 := S.still a1'
        obtain ⟨v', g', h1', h2', ow, wr⟩ := S1.write el
        rw [h1] at h1'
        cases h1'
        cases h2' with
        | @dk _ kvs' _ hh' dd' =>
          cases r1 with
          | @dk b more _ hb db =>
            refine ⟨a, b, rfl, rfl, fun q => na (by simp [q]), .inl ⟨kvs', more, hh', hb, by rw [dd'.length, db.length]; exact Nat.le_of_lt c2, ?_⟩⟩
            have nz := ow.nz a List.mem_cons_self
            have nt : ∀ xs, H1 a ≠ some (.tup xs) := fun xs q => by rw [hh'] at q; cases q
            obtain ⟨fp', S3, _, f3⟩ := wr _ (upd H1 a (.dK (mergeV kvs' more))) (.dk (putsD l m)) [a] [] (Fr.upd1 ⟨_, hh'⟩ List.mem_cons_self) (.dk upd_same ((db.upd nz nt).puts (dd'.upd nz nt))) (ow.upd1 trivial)
            exact k _ _ σ fp' S3 ((tail_fr a1').trans f3) .rfl
    · cases e
  · rename_i l m el
    split at e
    · rename_i c
      cases e
      obtain ⟨c1, c2⟩ := Bool.and_eq_true_iff.mp c
      have c2 := lt24_ok c2
      obtain ⟨v, g, h1, h2, _, _⟩ := S.write el
      cases h2 with
      | @dt a kvs _ hh dd =>
        refine ⟨.ref a, h1, .inr (.inr (.inl ⟨rfl, .inr ⟨_, hh⟩⟩)), Z, ρ, fp, _, S, eo, fun Z1 H1 v1 g1 r1 o1 a1 => ?_⟩
        have na : a ∉ g1 := Rst.gone hh a1
        have a1' : Fr H [] Z H1 [] Z1 := a1.less fun _ m => (nomatch m)
        have S1 := S.still a1'
        obtain ⟨v', g', h1', h2', ow, wr⟩ := S1.write el
        rw [h1] at h1'
        cases h1'
        cases h2' with
        | @dt _ kvs' _ hh' dd' =>
          cases r1 with
          | @dt b more _ hb db =>
            refine ⟨a, b, rfl, rfl, fun q => na (by simp [q]), .inr ⟨kvs', more, hh', hb, by rw [dd'.length, db.length]; exact Nat.le_of_lt c2, ?_, ?_⟩⟩
            · rcases Bool.or_eq_true_iff.mp c1 with c1 | c1
              · refine .inl fun q => ?_
                have hl := dd'.length
                rw [q] at hl
                cases l with
                | nil => cases c1
                | cons _ _ => simp at hl
              · exact .inr (by rw [db.length]; exact Nat.le_of_ble_eq_true c1)
            have nz := ow.nz a List.mem_cons_self
            have nt : ∀ xs, H1 a ≠ some (.tup xs) := fun xs q => by rw [hh'] at q; cases q
            obtain ⟨fp', S3, _, f3⟩ := wr _ (upd H1 a (.dT (mergeV kvs' more))) (.dt (putsD l m)) [a] [] (Fr.upd1 ⟨_, hh'⟩ List.mem_cons_self) (.dt upd_same ((db.upd nz nt).puts (dd'.upd nz nt))) (ow.upd1 trivial)
            exact k _ _ σ fp' S3 ((tail_fr a1').trans f3) .rfl
    · cases e
  · cases e
end

/-! ## dict(pairs) -/
section
variable {X : Cx} {K : PySem.W.Frag}
abbrev rDictT (K : PySem.W.Frag) : List V → Hp → VK → Prop := fun xs H Q => ∃ (a : Addr) (ps : List Addr) (qs : List (List Key × Addr × V)), xs = [.ref a] ∧ SqL K H a (ps.map V.ref) ∧
  Paired (fun p q => SqT K H p [.ref q.2.1, q.2.2] ∧ H q.2.1 = some (.tup (q.1.map kV))) ps qs ∧ ∀ p, H p = none → Q (.ref p) (upd H p (.dT (mergeV [] (qs.map fun q => (q.1, q.2.2)))))
theorem pairs_ofT {pins : List (Addr × Obj)} {σ : L2.St} {H : Hp} {s : Shared} (I : Inv X pins σ H s) : ∀ {ps : List Addr} {qs : List (List Key × Addr × V)}, Paired (fun p q => SqT X.K H p [.ref q.2.1, q.2.2] ∧ H q.2.1 = some (.tup (q.1.map kV))) ps qs →
    ∃ prs : List (List Key × Addr × Value), KT H (qs.map fun q => (q.1, q.2.2)) prs ∧ prs.length = ps.length ∧ ∀ (j : Nat) (q : List Key × Addr × Value), prs[j]? = some q → ∃ b : Addr, ps[j]? = some b ∧ IsTup s.heap b #[.ref q.2.1, q.2.2]
  | _, _, .nil => ⟨[], .nil, rfl, fun j q e => by simp at e⟩
  | _, _, .cons (a := p) (b := q) h t => by
    obtain ⟨prs, r, hl, hp⟩ := pairs_ofT I t
    obtain ⟨its, rv, ht, _⟩ := I.tuple h.1
    obtain ⟨u, y, rfl, ru, ry⟩ := vals2 rv
    cases ru
    refine ⟨(q.1, q.2.1, y) :: prs, .cons ⟨rfl, h.2, ry⟩ r, by rw [List.length_cons, List.length_cons, hl], fun j q' e => ?_⟩
    cases j with
    | zero =>
      have e' : (q.1, q.2.1, y) = q' := Option.some.inj e
      subst e'
      exact ⟨p, rfl, ht⟩
    | succ j =>
      obtain ⟨b, e1, e2⟩ := hp j q' (by simpa using e)
      exact ⟨b, by simpa using e1, e2⟩
theorem op_dictT (hc : X.calm = true) (hu : X.A.units + 64 < cLine) : CallR X (.type "dict") (rDictT X.K) := by
  intro pins s σ H xs us Q I r q
  obtain ⟨a, ps, qs, ex, hq, hp, q⟩ := q
  subst ex
  rw [Vals.ref1 r]
  obtain ⟨its, rv, pl, hz⟩ := I.list hq
  have ei := refs_at rv
  subst ei
  rw [List.length_map] at hz
  obtain ⟨prs, rel, hl, hpr⟩ := pairs_ofT I hp
  obtain ⟨o, n, ho, hcl, hd, hdat⟩ := pl
  have mm := kt_mem rel
  let pv : List (Value × Value) := prs.map fun x => (Value.ref x.2.1, x.2.2)
  have hpl : pv.length = prs.length := List.length_map _
  have items : PairItems s.heap (ps.map Value.ref).toArray (fun j => ps.getD j 0) pv := by
    refine ⟨by rw [List.size_toArray, List.length_map, hpl, hl], fun j k v e => ?_⟩
    have e : (prs[j]?).map (fun x => (Value.ref x.2.1, x.2.2)) = some (k, v) := by rw [← List.getElem?_map]; exact e
    obtain ⟨x, ex, e⟩ := Option.map_eq_some_iff.mp e
    cases e
    obtain ⟨b, e1, e2⟩ := hpr j x ex
    have e3 : ps.getD j 0 = b := by rw [List.getD_eq_getElem?_getD, e1]; rfl
    show (List.map Value.ref ps).toArray[j]? = some (Value.ref (ps.getD j 0)) ∧ PairAt s.heap (ps.getD j 0) (Value.ref x.snd.fst) x.snd.snd
    rw [e3]
    refine ⟨by rw [List.getElem?_toArray, List.getElem?_map, e1]; rfl, .inl ?_⟩
    obtain ⟨ob, h1, h2, n2, h3⟩ := e2
    exact ⟨ob, h1, h2, n2, h3⟩
  refine call_dict_pairsH (knd := tupleKind (mixKind X.prog X.w)) (ps := prs) (PairArg.list a _ _ pv) (I.ok.hd hc) (by show X.A.units + 1 + 1 < cLine; omega) ⟨⟨o, n, ho, hcl, hd, hdat⟩, items⟩ ⟨hpl.symm, fun i key v e => ?_⟩ (fun h' hk x mx => ?_) (by rw [hpl, hl]; exact hz) fun h' tk dd' hk => ?_
  · have e : (prs[i]?).map (fun x => (Value.ref x.2.1, x.2.2)) = some (key, v) := by rw [← List.getElem?_map]; exact e
    obtain ⟨x, ex, e⟩ := Option.map_eq_some_iff.mp e
    cases e
    exact ⟨x.1, x.2.1, ex, rfl⟩
  · have I' : Inv X pins σ H { s with heap := h', toks := s.toks } := I.kept fun b u e => hk b u (Nat.ne_of_lt (Heap.lt_size e)) (by simp) e
    exact key_of I'.hok (mm x mx)
  · have I' : Inv X pins σ H { s with heap := h', toks := tk } := I.kept fun b u e => hk b u (by simp) e
    have hm : (s.heap.objs.size == sysModules) = false := beq_eq_false_iff_ne.mpr (Nat.ne_of_gt I.big)
    have nH := I.hok.fresh (Nat.le_refl s.heap.objs.size)
    have hlen : (mergeV [] (qs.map fun q => (q.1, q.2.2))).length ≤ sizeLine := by
      refine Nat.le_trans (mergeV_length _ []) ?_
      have := Paired.length rel
      rw [List.length_nil, Nat.zero_add, this, hl]
      exact hz
    obtain ⟨ob, es, ep, hq2, h2, h3, h4, _, h5⟩ := dd'
    refine ⟨.ref s.heap.objs.size, _, I.laid (a := s.heap.objs.size) (o := .dT (mergeV [] (qs.map fun q => (q.1, q.2.2)))) (t' := tk) (fun b u e => hk b u (by simp) e) (Nat.le_refl _) ⟨hlen, hm, _, (kt_merge rel .nil).keeps fun c ys ec => ?_, ob, es, ep, hq2, h2, h3, h4, h5⟩, rfl, q _ nH⟩
    rw [upd_ne (ne_of_none ec nH)]
    exact ec
def pairsK : List PyData → Option (List (Key × PyData))
  | [] => some []
  | .tuple [k, v] :: r => (dkey k).bind fun k => (pairsK r).bind fun l => some ((k, v) :: l)
  | _ => none
def pairsT : List PyData → Option (List (List Key × PyData))
  | [] => some []
  | .tuple [k, v] :: r => (dkeyT k).bind fun k => (pairsT r).bind fun l => some ((k, v) :: l)
  | _ => none
def dictO (x : Ob) : Option Ob := (asLst x).bind fun l => match pairsK l with
  | some kvs => some (.dk (putsD [] kvs))
  | none => (pairsT l).bind fun kvs => some (.dt (putsD [] kvs))
theorem pairsK_rep {Z : Zs} {H : Hp} : ∀ {l : List PyData} {vs : List V} {kds : List (Key × PyData)}, DpZs K Z H vs l → pairsK l = some kds → ∃ (ps : List Addr) (kvs : List (Key × V)), vs = ps.map V.ref ∧ Paired (fun p kv => SqT K H p [kV kv.1, kv.2]) ps kvs ∧ DKv K Z H kvs kds
  | [], _, _, h, e => by cases e; cases h; exact ⟨[], [], rfl, .nil, .nil⟩
  | d :: l, _, kds, h, e => by
    unfold pairsK at e
    split at e
    · rename_i h0; cases h0
    · rename_i k v r h0
      cases h0
      obtain ⟨kk, ek, e⟩ := bind_some e
      obtain ⟨m, em, e⟩ := bind_some e
      cases e
      cases h with
      | cons h t =>
        obtain ⟨ps, kvs, rfl, hp, hd⟩ := pairsK_rep t em
        obtain ⟨b, xs, rfl, hb, tb⟩ := h.tupAt
        cases tb with
        | cons t1 t2 => cases t2 with
          | cons t2 t3 =>
            cases t3
            rw [dkey_rep t1 ek] at hb
            exact ⟨b :: ps, (kk, _) :: kvs, rfl, .cons (.of hb) hp, .cons t2 hd⟩
    · cases e
theorem pairsT_rep {Z : Zs} {H : Hp} : ∀ {l : List PyData} {vs : List V} {kds : List (List Key × PyData)}, DpZs K Z H vs l → pairsT l = some kds → ∃ (ps : List Addr) (qs : List (List Key × Addr × V)), vs = ps.map V.ref ∧ Paired (fun p q => SqT K H p [.ref q.2.1, q.2.2] ∧ H q.2.1 = some (.tup (q.1.map kV))) ps qs ∧ DKv K Z H (qs.map fun q => (q.1, q.2.2)) kds
  | [], _, _, h, e => by cases e; cases h; exact ⟨[], [], rfl, .nil, .nil⟩
  | d :: l, _, kds, h, e => by
    unfold pairsT at e
    split at e
    · rename_i h0; cases h0
    · rename_i k v r h0
      cases h0
      obtain ⟨kk, ek, e⟩ := bind_some e
      obtain ⟨m, em, e⟩ := bind_some e
      cases e
      cases h with
      | cons h t =>
        obtain ⟨ps, qs, rfl, hp, hd⟩ := pairsT_rep t em
        obtain ⟨b, xs, rfl, hb, tb⟩ := h.tupAt
        cases tb with
        | cons t1 t2 => cases t2 with
          | cons t2 t3 =>
            cases t3
            obtain ⟨c, rfl, hcc⟩ := dkeyT_rep t1 ek
            exact ⟨b :: ps, (kk, c, _) :: qs, rfl, .cons ⟨.of hb, hcc⟩ hp, .cons t2 hd⟩
    · cases e
abbrev rDictA (K : PySem.W.Frag) : List V → Hp → VK → Prop := fun xs H Q => (∃ (a : Addr) (ps : List Addr) (kvs : List (Key × V)), xs = [.ref a] ∧ SqL K H a (ps.map V.ref) ∧ Paired (fun p kv => SqT K H p [kV kv.1, kv.2]) ps kvs ∧
    ∀ p, H p = none → Q (.ref p) (upd H p (.dK (mergeK [] kvs)))) ∨ rDictT K xs H Q
theorem op_dictA (hc : X.calm = true) (hu : X.A.units + 64 < cLine) : CallR X (.type "dict") (rDictA X.K) := (call_dictP hc).or (op_dictT hc hu)
theorem rd_dictA : RdL K (rDictA K) (g1 dictO) := .one fun Z H v o a o' Q za r e k => by
  obtain ⟨l, el, e⟩ := bind_some e
  obtain ⟨p, vs, rfl, s, t⟩ := asLst_rep r el
  split at e
  · rename_i kds ek
    cases e
    obtain ⟨ps, kvs, rfl, hp, hd⟩ := pairsK_rep t ek
    refine .inl ⟨p, ps, kvs, rfl, .of s, hp, ?_⟩
    rw [mergeK_eq]
    exact Rst.new1 k za trivial fun p H' q a => .dk q ((hd.puts .nil).keep a.zup (fun b u _ e => a.same b u e (by simp)) fun b xs e => a.same b _ e (by simp))
  · obtain ⟨kds, ek, e⟩ := bind_some e
    cases e
    obtain ⟨ps, qs, rfl, hp, hd⟩ := pairsT_rep t ek
    refine .inr ⟨p, ps, qs, rfl, .of s, hp, ?_⟩
    exact Rst.new1 k za trivial fun p H' q a => .dt q ((hd.puts .nil).keep a.zup (fun b u _ e => a.same b u e (by simp)) fun b xs e => a.same b _ e (by simp))
end
end DL

namespace DL
open PySem PySem.Spec PyProof.Rows L2

/-! ## table comprehensions of both kinds of keys: my own walk, in three parts (a store, the loop in its block, the block) -/
section
variable {X : Cx} {pins : List (Addr × Obj)} {σ : L2.St} {H H' : Hp} {s : Shared} {D : Addr} {y z : V} {u r : Value} {E : Value → Shared → Prop} {Q : Unit → Shared → Prop}
theorem put_comp (hu : X.A.units < cLine) (I : Inv X pins σ H s) (g : DPut H D y z H') (ry : RelV y u) (rz : RelV z r) (h : ∀ s', Inv X pins σ H' s' → Q () s') : wpAny (model X.prog X.w) X.A (dictSet D u r) Q E s := by
  rcases g with ⟨kvs, k, hD, rfl, hz, rfl⟩ | ⟨kvs, k, b, hD, rfl, hb, hz, rfl⟩
  · exact d_dictSet I hD hz ry rz h
  · cases ry
    obtain ⟨hl, nm, xs, rel, dd⟩ := dt_of I.hok hD
    have lx := Paired.length rel
    refine wpAny_dictSet_heap (knd := tupleKind (mixKind X.prog X.w)) (hsz := by omega) hu (key_of I.hok hb) dd fun h' dd' same => h _ ?_
    obtain ⟨o, es, ep, e1, e2, e3, e4, _, e5⟩ := dd'
    have pl := length_putK kvs k z
    have keep := (rel.put k hb rz).keeps (H' := upd H D (.dT (putK kvs k z))) fun c ys ec => (upd_ne (ne_of ec hD fun q => nomatch q)).trans ec
    exact d_write (ob := .dT (putK kvs k z)) I (by rw [hD]; trivial) same ⟨o, e1⟩ ⟨by omega, nm, _, keep, o, es, ep, e1, e2, e3, e4, e5⟩
end
/-- what a turn of the loop does -/
abbrev TblStep (g : TG) (tt : TT) (tk tv : TE) (vs : List Nat) (σ : L2.St) (D : Addr) (J : It) (Wn : Nat → Nat → Hp → Prop) (Qd : Hp → Prop) : Prop := ∀ i m H, Wn i m H →
  (J.stop i H ∧ Qd H) ∨ (J.go i H ∧ ∃ Nx : Hp → Prop, (∀ H', Nx H' → ∃ m', m' < m ∧ Wn (i + 1) m' H') ∧ ∀ x H', J.yld i H x H' → g x (L2.wipe σ vs) H' fun σ2 H2 => L2.wipe σ2 vs = L2.wipe σ vs ∧ tt σ2 H2 fun b H3 =>
    if b = true then tk σ2 H3 fun y H4 => tv σ2 H4 fun z H5 => ∃ H6, DPut H5 D y z H6 ∧ Nx H6 else Nx H3)
def tTbl (E0 : HO) (wi : TI) (g : TG) (tt : TT) (tk tv : TE) (vs : List Nat) : TE := fun σ H Q => wi σ H fun J H1 => ∀ D, H1 D = none → ∃ Wn : Nat → Nat → Hp → Prop, (∃ m, Wn 0 m (upd H1 D E0)) ∧ TblStep g tt tk tv vs σ D J Wn (Q (.ref D))
section
variable {Y : Cx} {kx vx tg iter : Expr} {ifs : List Expr} {scope : Scope} {pos : Pos} {g : TG} {tt : TT} {tk tv : TE} {vs : List Nat} {σ : L2.St} {D it : Addr} {J : It} {fp : List Addr} {tn : Nat → Heap → Prop} {Wn : Nat → Nat → Hp → Prop} {Qd : Hp → Prop} {R : Result → Shared → Prop}
/-- the state of the block between two turns -/
structure Between (Y : Cx) (fp : List Addr) (tn : Nat → Heap → Prop) (vs : List Nat) (σ : L2.St) (i : Nat) (H : Hp) (s : Shared) : Prop where
  inv : Inv Y [] (L2.wipe σ vs) H s
  at_ : tn i s.heap
  off : ∀ b ∈ fp, H b = none
theorem tbl_loop (T : Turn Y.prog Y.w Y.K tg J fp it tn) (calm : Y.calm = true) (hu : Y.A.units < cLine) (silent : Y.xe = fun _ _ => False)
    (free : ∀ (σ' : L2.St) (H' : Hp) (s' : Shared), Inv Y [] σ' H' s' → (∀ b ∈ fp, H' b = none) → ∀ b ∈ fp, FpOk Y [] H' b) (pg : PG Y tg g) (pt : PTs Y ifs tt) (pk : PE Y kx tk) (pv : PE Y vx tv)
    (step : TblStep g tt tk tv vs σ D J Wn Qd) (stop : ∀ H' s', Inv Y [] (L2.wipe σ vs) H' s' → Qd H' → R (.ok .next) s') {m0 : Nat} {H0 : Hp} {s0 : Shared} (b0 : Between Y fp tn vs σ 0 H0 s0) (w0 : Wn 0 m0 H0) :
    codeAny (model Y.prog Y.w) Y.A (.compLoop (.DictComp kx vx [⟨tg, iter, ifs, 0⟩] scope pos) 0 (.ref it) (.ref D) Y.env) R s0 := by
  have quiet : ∀ {α : Type} {t : Sem α} {Q Q' : α → Shared → Prop} {E : Value → Shared → Prop} {s : Shared}, wpAny (model Y.prog Y.w) Y.A t Q Y.xe s → (∀ a s', Q a s' → Q' a s') → wpAny (model Y.prog Y.w) Y.A t Q' E s := by
    intro α t Q Q' E s h k
    rw [silent] at h
    exact wpAny_mono h k fun _ _ f => f.elim
  refine compLoop_anyD (fun m s => ∃ i H, Between Y fp tn vs σ i H s ∧ Wn i m H) ?_ m0 ⟨0, H0, b0, w0⟩
  rintro m s ⟨i, H, ⟨inv, here, off⟩, w⟩
  rcases step i m H w with ⟨st, fin⟩ | ⟨go, Nx, next, turn⟩
  · refine wpAny_mono (T.done Y rfl rfl rfl calm i [] s _ H _ inv (free _ _ _ inv off) here st) (fun r s1 hr => ?_) fun _ _ x => x
    obtain ⟨rfl, inv1⟩ := hr
    exact stop H s1 inv1 fin
  · refine wpAny_mono (T.item Y rfl rfl rfl calm i [] s _ H _ inv (free _ _ _ inv off) here go) (fun r s1 hr => ?_) fun _ _ x => x
    obtain ⟨u, rfl, hr⟩ := hr
    refine wpAny_mono hr (fun _ s2 h2 => ?_) fun _ _ x => x
    obtain ⟨x, H2, inv2, rx, yl, here2, off2⟩ := h2
    -- the iterator's own objects stay while the body runs
    have held := inv2.pinned (free _ _ _ inv2 off2) (T.obj _ _ here2)
    refine quiet (pg.run _ s2 _ H2 x u _ held rx (turn x H2 yl)) fun _ s3 h3 => ?_
    obtain ⟨σ3, H3, inv3, back, q3⟩ := h3
    have over : ∀ (s' : Shared) (H' : Hp), Inv Y ([] ++ pinsAt fp s2.heap) σ3 H' s' → Nx H' → ∃ m', m' < m ∧ ∃ i H, Between Y fp tn vs σ i H s' ∧ Wn i m' H := by
      intro s' H' inv' nx
      obtain ⟨m', lt, w'⟩ := next H' nx
      have same : ∀ b ∈ fp, ∀ o, s2.heap.get? b = some o → s'.heap.get? b = some o ∧ H' b = none := fun b mb o e => by
        have p := inv'.pin (b, o) (List.mem_append_right _ (List.mem_append_right _ (mem_pinsAt mb e)))
        exact ⟨p.1, p.2.1⟩
      have len : (L2.wipe σ vs).length = σ3.length := (congrArg List.length back).symm.trans (wipe_length σ3 vs)
      refine ⟨m', lt, i + 1, H', ⟨?_, T.keep _ _ _ here2 fun b mb o e => (same b mb o e).1, fun b mb => ?_⟩, w'⟩
      · refine (inv'.unpinned (pins := [])).weak len fun j v e => ?_
        rw [← back] at e
        exact (wipe_some e).1
      · obtain ⟨o, e, _⟩ := T.obj _ _ here2 b mb
        exact (same b mb o e).2
    refine quiet (pt.run _ s3 σ3 H3 _ inv3 q3) fun b s4 h4 => ?_
    obtain ⟨H4, inv4, q4⟩ := h4
    by_cases hb : b = true
    · rw [if_pos hb] at q4 ⊢
      refine quiet (pk.run _ s4 σ3 H4 _ inv4 q4) fun kv s5 h5 => ?_
      obtain ⟨y, H5, inv5, ry, q5⟩ := h5
      refine quiet (pv.run _ s5 σ3 H5 _ inv5 q5) fun vv s6 h6 => ?_
      obtain ⟨z, H6, inv6, rz, H7, put, nx⟩ := h6
      exact put_comp hu inv6 put ry rz fun s7 inv7 => over s7 H7 inv7 nx
    · rw [if_neg hb] at q4 ⊢
      exact over s4 H4 inv4 q4
end
section
variable {X : Cx} {kx vx tg iter : Expr} {ifs : List Expr} {scope : Scope} {own : List (Str × Nat)} {pos : Pos} {wi : TI} {g : TG} {tt : TT} {tk tv : TE} {E0 : HO}
theorem pe_tbl (hE : ∀ (H : Hp) (h : Heap), sysModules < h.objs.size → ObjOk X.prog X.w H (h.push { cls := .type "dict", data := .dict #[] }) h.objs.size E0) (hc : X.calm = true) (hu : X.A.units < cLine) (hN : X.N.Nodup) (hi : PI X tg iter wi) (ok : BlkOk X.N X.env.scope scope own)
    (hg : BlkAll X scope fun X => PG X tg g) (ht : BlkAll X scope fun X => PTs X ifs tt) (hk : BlkAll X scope fun X => PE X kx tk) (hv : BlkAll X scope fun X => PE X vx tv) (hs : ∀ x, foldedSetIterable iter X.env x = pure x) :
    PE X (.DictComp kx vx [⟨tg, iter, ifs, 0⟩] scope pos) (tTbl E0 wi g tt tk tv (own.map (·.2))) := by
  constructor
  intro pins s σ H Q I h
  rw [arm_eval_DictComp]
  have cl : ∀ y ∈ scope.names, y.2 = .free → ∃ c, X.env.cells.lookup y.1 = some c := fun y my e => I.ok.has _ (ok.free y my e)
  refine wpAny_comprehension_free (use := none) rfl hs (closure_ok cl) ok.kind (fun y my e => (ok.uniq y my).trans (congrArg some e)) (thn (hi.run pins s σ H _ I h) fun xv s1 h1 => thn h1 fun itv s2 h2 => ?_)
  obtain ⟨it, fp, tn, J, H2, rfl, I2, T, here, fpo, q⟩ := h2
  refine wpAny_newObj_type (newEnv_comp ?_)
  have nD : H2 s2.heap.objs.size = none := I2.hok.fresh (Nat.le_refl _)
  obtain ⟨Wn, ⟨m0, w0⟩, step⟩ := q _ nD
  -- the table is there, then the block's frame
  have I3 : Inv X pins σ (upd H2 s2.heap.objs.size E0) { s2 with heap := s2.heap.push { cls := .type "dict", data := .dict #[] } } :=
    I2.laid (a := s2.heap.objs.size) (t' := s2.toks) (fun b o e => Heap.get?_push_of_some _ e) (Nat.le_refl _) (hE _ _ I2.big)
  have low : ∀ b ∈ fp, b < s2.heap.objs.size := fun b mb => let ⟨_, e, _⟩ := T.obj _ _ here b mb; Heap.lt_size e
  have fpo3 : ∀ b ∈ fp, FpOk X pins (upd H2 s2.heap.objs.size E0) b := fun b mb =>
    ⟨(upd_ne (Nat.ne_of_lt (low b mb))).trans (fpo b mb).1, (fpo b mb).2⟩
  have I4 := block_start I3 ok hN fun b mb => ⟨fpo3 b mb, by
    show b < (s2.heap.push _).objs.size
    rw [Heap.size_push]
    exact Nat.lt_succ_of_lt (low b mb)⟩
  have here4 := T.keep _ _ (pushCells ((s2.heap.push { cls := .type "dict", data := .dict #[] }).push { cls := .type "dict", data := .dict #[] }) scope.names) here fun b _ o e => pushCells_keeps _ _ _ _ (Heap.get?_push_of_some _ (Heap.get?_push_of_some _ e))
  refine codeAny_compStart_dict ?_ (T.self X.A 0 _ _ _ here4 ?_)
  all_goals
    refine tbl_loop (Y := X.blk _ _ scope _ fp) (R := compPost (model X.prog X.w) X.A X.xe none _ _ _) T hc hu rfl (fun σ' H' s' inv off b mb => ⟨off b mb, (inv.ok.exf b mb).1, inv.ok.exfs b mb, .inl mb, fun x c e => (inv.ok.exf b mb).2 x c e, fun p mp => absurd (show p ∈ ([] : List (Addr × Obj)) ++ [] from mp) (by simp)⟩)
      (hg _ _ _ _ _) (ht _ _ _ _ _) (hk _ _ _ _ _) (hv _ _ _ _ _) step (fun H' s' inv fin => ?_) ⟨I4, here4, fun b mb => (fpo3 b mb).1⟩ w0
    obtain ⟨mm, hn, _⟩ := inv.loc
    have home := I3.call' (ch := fp) inv.os inv.base inv.hok inv.bare fun b mb => ⟨(fpo3 b mb).2.2.2.1, (fpo3 b mb).2.1, (fpo3 b mb).2.2.2.2.1, (fpo3 b mb).2.2.2.2.2⟩
    refine ⟨mm, hn, fun h'' sb => ?_⟩
    obtain ⟨f0, f1, f2, f3, f4, f5⟩ := I3.fpOk (H' := H') (Nat.le_refl _) inv.free
    exact ⟨.ref s2.heap.objs.size, H', home.turned (t' := s'.toks) (fun b o hb e => (sb.2 b hb).trans e) f0 f1 f3 f4 f5, rfl, fin⟩
end
end DL

namespace DL
open PySem PySem.Spec PyProof.Rows L2

/-! ## table comprehensions on data -/
/-- one of the two sorts of tables -/
structure TabK (K : PySem.W.Frag) (κ : Type) [DecidableEq κ] where
  hob : List (κ × V) → HO
  ob : List (κ × PyData) → Ob
  key : PyData → Option κ
  nt : ∀ l xs, hob l ≠ .tup xs
  put : ∀ {Z : Zs} {H : Hp} {D : Addr} {av : List (κ × V)} {y z : V} {d : PyData} {k : κ}, DpZ K Z H y d → key d = some k → H D = some (hob av) → av.length < sizeLine → DPut H D y z (upd H D (hob (putK av k z)))
  rep : ∀ {Z : Zs} {H : Hp} {a : Addr} {kvs : List (κ × V)} {kds : List (κ × PyData)}, H a = some (hob kvs) → DKv K Z H kvs kds → RepO K Z H (.ref a) (ob kds) [a]
  new : ∀ (P : Program) (w : World) (H : Hp) (h : Heap), sysModules < h.objs.size → ObjOk P w H (h.push { cls := .type "dict", data := .dict #[] }) h.objs.size (hob [])
def tabK (K : PySem.W.Frag) : TabK K Key where
  hob := .dK
  ob := .dk
  key := dkey
  nt := fun _ _ h => nomatch h
  put := fun r e h hl => by rw [dkey_rep r e]; exact .k h hl
  rep := fun h d => .dk h d
  new := fun P w H h hb => dk_empty h hb
def tabT (K : PySem.W.Frag) : TabK K (List Key) where
  hob := .dT
  ob := .dt
  key := dkeyT
  nt := fun _ _ h => nomatch h
  put := fun r e h hl => by
    obtain ⟨b, rfl, hb⟩ := dkeyT_rep r e
    exact .t h hb hl
  rep := fun h d => .dt h d
  new := fun P w H h hb => dt_empty h hb
def dcL (ga : FT) (tt : FB) (tk tv : F1) : List PyData → Env → Option (List (PyData × PyData))
  | [], _ => some []
  | d :: ds, ρ => (ga d ρ).bind fun ρ1 => (tt ρ1).bind fun b => if b then (tk ρ1).bind fun o => (fz o).bind fun x => (tv ρ1).bind fun o' => (fz o').bind fun x' => (dcL ga tt tk tv ds ρ).bind fun r => some ((x, x') :: r) else dcL ga tt tk tv ds ρ
def keyed {κ : Type} (key : PyData → Option κ) : List (PyData × PyData) → Option (List (κ × PyData))
  | [] => some []
  | p :: r => (key p.1).bind fun k => (keyed key r).bind fun l => some ((k, p.2) :: l)
def oDc {κ : Type} [DecidableEq κ] (key : PyData → Option κ) (ob : List (κ × PyData) → Ob) (n : Nat) (vs : List Nat) (fi : FD) (ga : FT) (tt : FB) (tk tv : F1) : F1 := fun ρ => if Nat.beq ρ.length n then (fi ρ).bind fun ds => if short ds then (dcL ga tt tk tv ds (wipeE ρ vs)).bind fun l => (keyed key l).bind fun kds => some (ob (putsD [] kds)) else none else none
section
variable {X : Cx} {K : PySem.W.Frag} {pos : Pos} {fi : FD} {ga : FT} {tt : FB} {tk tv : F1} {n : Nat} {vs : List Nat} {κ : Type} [DecidableEq κ]
theorem putsD_put (kds : List (κ × PyData)) (k : κ) (d : PyData) (r : List (κ × PyData)) : putsD kds ((k, d) :: r) = putsD (putD kds k d) r := rfl
theorem runDc (T : TabK K κ) {σ : L2.St} {H : Hp} {Q : VK} (h : tP K (oDc T.key T.ob n vs fi ga tt tk tv) σ H Q) : tTbl (T.hob []) (tI K fi) (tG K (offs n vs) ga) (tT K tt) (tP K tk) (tP K tv) vs σ H Q := by
  obtain ⟨Z, ρ, fp, o, S, e, k⟩ := h
  have e : (if Nat.beq ρ.length n = true then (fi ρ).bind fun ds => if short ds = true then (dcL ga tt tk tv ds (wipeE ρ vs)).bind fun l => (keyed T.key l).bind fun kds => some (T.ob (putsD [] kds)) else none else none) = some o := e
  split at e
  · rename_i hn
    have hn : ρ.length = n := Nat.eq_of_beq_eq_true hn
    obtain ⟨ds, ed, e⟩ := bind_some e
    split at e
    · rename_i hs
      have hs := short_ok hs
      obtain ⟨l, el, e⟩ := bind_some e
      obtain ⟨kds, ek, e⟩ := bind_some e
      cases e
      refine ⟨Z, ρ, fp, ds, S, ed, fun Z1 H1 J it a1 D nD => ?_⟩
      have S1 := S.still a1
      have za1 := S1.za
      have nzD : ¬ Z1 D := fun z => by
        obtain ⟨o, q⟩ := za1 D z
        rw [nD] at q; cases q
      refine ⟨fun i m H2 => ∃ Z2 av ad rest rk, m = ds.length - i ∧ i ≤ ds.length ∧ H2 D = some (T.hob av) ∧ DKv K Z2 H2 av ad ∧ ¬ Z2 D ∧ av.length ≤ i ∧ Fr H1 [] Z1 H2 [D] Z2 ∧ dcL ga tt tk tv (ds.drop i) (wipeE ρ vs) = some rest ∧ keyed T.key rest = some rk ∧ putsD ad rk = putsD [] kds,
        ⟨_, Z1, [], [], l, kds, rfl, Nat.zero_le _, upd_same, .nil, nzD, Nat.le_refl _, upd_fr nD Z1 (fun _ z => z) (fun _ z => .inl z) (fun b m => by simpa using m), el, ek, rfl⟩, ?_⟩
      rintro i m H2 ⟨Z2, av, ad, rest, rk, rfl, hi, hD, dv, nz2, hlen, a2, e2, ek2, el2⟩
      have a2' : Fr H1 [] Z1 H2 [] Z2 := a2.less fun _ m => (nomatch m)
      have S2 := S1.still a2'
      obtain ⟨go, stop⟩ := it i Z2 H2 ⟨a2.zup, fun b u z e => a2.same b u e (by simp), fun b xs e => a2.same b _ e (by simp)⟩ S2.za
      by_cases hlt : i < ds.length
      · obtain ⟨g1, g2⟩ := go ds[i] (List.getElem?_eq_getElem hlt)
        rw [List.drop_eq_getElem_cons hlt] at e2
        obtain ⟨ρ3, e3, e2⟩ := bind_some (show ((ga ds[i] (wipeE ρ vs)).bind fun ρ1 => (tt ρ1).bind fun b => if b = true then (tk ρ1).bind fun o => (fz o).bind fun x => (tv ρ1).bind fun o' => (fz o').bind fun x' => (dcL ga tt tk tv (ds.drop (i + 1)) (wipeE ρ vs)).bind fun r => some ((x, x') :: r) else dcL ga tt tk tv (ds.drop (i + 1)) (wipeE ρ vs)) = some rest from e2)
        obtain ⟨b, eb, e2⟩ := bind_some e2
        refine .inr ⟨g1, fun H' => ∃ Z2 av ad rest rk, i + 1 ≤ ds.length ∧ H' D = some (T.hob av) ∧ DKv K Z2 H' av ad ∧ ¬ Z2 D ∧ av.length ≤ i + 1 ∧ Fr H1 [] Z1 H' [D] Z2 ∧ dcL ga tt tk tv (ds.drop (i + 1)) (wipeE ρ vs) = some rest ∧ keyed T.key rest = some rk ∧ putsD ad rk = putsD [] kds, fun H' ⟨Z2, av, ad, rest, rk, q⟩ => ⟨_, by omega, Z2, av, ad, rest, rk, rfl, q⟩, fun x H3 y => ?_⟩
        obtain ⟨Z3, dx, a3⟩ := g2 x H3 y
        have step : ∀ {Z4 : Zs} {H4 : Hp}, Fr H2 [] Z2 H4 [] Z4 → H4 D = some (T.hob av) ∧ DKv K Z4 H4 av ad ∧ ¬ Z4 D ∧ Fr H1 [] Z1 H4 [D] Z4 := fun {Z4 H4} a4 => by
          refine ⟨a4.same _ _ hD (by simp), dv.keep a4.zup (fun b o _ q => a4.same b o q (by simp)) fun b xs q => a4.same b _ q (by simp), fun z => ?_, a2.trans (tail_fr a4)⟩
          rcases a4.znew D _ hD z with z | z
          · exact nz2 z
          · cases z
        have S3 := S2.still a3
        obtain ⟨fpw, Sw, _⟩ := S3.wipe vs
        refine ⟨Z3, _, fpw, ds[i], ρ3, Sw, dx, e3, fun σ4 fp4 S4 s4 k4 => ⟨wipe_back (by rw [S.er.len]; exact hn) k4, Z3, ρ3, fp4, b, S4, eb, fun Z5 H5 a5 => ?_⟩⟩
        have a35 := a3.trans a5
        cases b with
        | false =>
          rw [if_neg Bool.false_ne_true] at e2
          refine L2.iteF ?_
          obtain ⟨s1, s2, s3, s4⟩ := step a35
          exact ⟨Z5, av, ad, rest, rk, hlt, s1, s2, s3, by omega, s4, e2, ek2, el2⟩
        | true =>
          rw [if_pos rfl] at e2
          refine L2.iteT ?_
          obtain ⟨o6, e6, e2⟩ := bind_some e2
          obtain ⟨x6, ex6, e2⟩ := bind_some e2
          obtain ⟨o7, e7, e2⟩ := bind_some e2
          obtain ⟨x7, ex7, e2⟩ := bind_some e2
          obtain ⟨r6, er6, e2⟩ := bind_some e2
          cases e2
          obtain ⟨kk, ekk, ek2⟩ := bind_some (show ((T.key x6).bind fun k => (keyed T.key r6).bind fun l => some ((k, x7) :: l)) = some rk from ek2)
          obtain ⟨rk', erk, ek2⟩ := bind_some ek2
          cases ek2
          refine ⟨Z5, ρ3, fp4, o6, S4.still a5, e6, fun Z6 H6 v6 g6 r6' o6' a6 => ?_⟩
          have a6' := a6.frz0 o6'
          have S6 := (S4.still a5).still a6'
          refine ⟨_, ρ3, fp4, o7, S6, e7, fun Z7 H7 v7 g7 r7 o7' a7 => ?_⟩
          have a7' := a7.frz0 o7'
          obtain ⟨s1, s2, s3, s4⟩ := step ((a35.trans a6').trans a7')
          have dk := (r6'.frz ex6).still a7'
          have dz := r7.frz ex7
          have nt : ∀ xs, H7 D ≠ some (.tup xs) := fun xs q => by rw [s1] at q; exact T.nt _ _ (Option.some.inj q)
          have pl := length_putK av kk v7
          refine ⟨upd H7 D (T.hob (putK av kk v7)), T.put dk ekk s1 (by omega), _, putK av kk v7, putD ad kk x7, r6, rk', hlt, upd_same, (s2.upd s3 nt).put kk (dz.upd s3 nt), s3, by omega, s4.trans (Fr.upd1 ⟨_, s1⟩ (by simp)), er6, erk, el2⟩
      · have hl : ds.length ≤ i := Nat.le_of_not_lt hlt
        rw [List.drop_eq_nil_of_le hl] at e2
        cases e2
        cases ek2
        have el2 : ad = putsD [] kds := el2
        rw [← el2] at k
        have own : Own Z2 H2 [D] := ⟨by simp, fun a m => by rw [List.mem_singleton.mp m]; exact nz2, fun a m => by
          rw [List.mem_singleton.mp m]
          refine ⟨_, hD, ?_⟩
          have := T.nt av
          cases hm : T.hob av <;> first | trivial | exact absurd hm (this _)⟩
        exact .inl ⟨stop hl, k Z2 H2 (.ref D) [D] (T.rep hD dv) own (a1.trans a2)⟩
    · cases e
  · cases e
theorem d_dc (T : TabK X.K κ) {kx vx tg iter : Expr} {ifs : List Expr} {scope : Scope} (own : List (Str × Nat)) {n : Nat} (hu : X.A.units + 64 < cLine) (hc : X.calm = true) (hN : X.N.Nodup) (hi : DI X tg iter fi) (ok : BlkOk X.N X.env.scope scope own)
    (hg : BlkAll X scope fun X => DG X (offs n (own.map (·.2))) tg ga) (ht : BlkAll X scope fun X => TDs X ifs tt) (hk : BlkAll X scope fun X => DP X kx tk) (hv : BlkAll X scope fun X => DP X vx tv) (hs : ∀ x, foldedSetIterable iter X.env x = pure x := by intro _; rfl) :
    DP X (.DictComp kx vx [⟨tg, iter, ifs, 0⟩] scope pos) (oDc T.key T.ob n (own.map (·.2)) fi ga tt tk tv) := PE.imp (pe_tbl (T.new X.prog X.w) hc (by omega) hN hi ok hg ht hk hv hs) fun _ _ _ h => runDc T h
end
end DL

namespace DL
open PySem PySem.Spec PyProof.Rows L2

/-! ## enumerate(tuple) -/
theorem meets_enum1 {v : Value} {o : Obj} {Hq : Heap → Prop} (Bg : Begins v o Hq) : Meets (Builtin.«enumerate.__new__» ⟨[.type "enumerate", v], []⟩) (fun _ R s => Hq s.heap ∧
    R (.ok (.ret (.ref (s.heap.push o).objs.size))) { s with heap := (s.heap.push o).push { cls := .type "enumerate", data := .fields #[.none, .bool false, .ref s.heap.objs.size, rawInt 0, .none, .none] } }) :=
  .of_wp fun prog w A R s h => by
    obtain ⟨hp, g, d, tk, os⟩ := s
    obtain ⟨h1, h⟩ := h
    have sub := sub_enumerate
    have begun : ∀ {A' : Around} {E : Value → Shared → Prop} {Q : Value → Shared → Prop}, Q (.ref hp.objs.size) ⟨hp.push o, g, d, tk, os⟩ → wpAny (model prog w) A' (pyIter v) Q E ⟨hp, g, d, tk, os⟩ :=
      fun q => Bg.iter prog w _ _ ⟨hp, g, d, tk, os⟩ _ h1 q
    wp_walk using begun
    refine wpAny_stack_any fun st => wpAny_pure ?_
    split
    · rename_i c _ _ _ _ _
      cases (c == Value.type "enumerate") <;> (wp_walk using begun; exact ⟨_, rfl, h⟩)
    · wp_walk using begun
      exact ⟨_, rfl, h⟩
theorem enum_new {prog : Program} {w : World} {A : Around} {E : Value → Shared → Prop} {s : Shared} {v : Value} {o : Obj} {Hq : Heap → Prop} {Q : Value → Shared → Prop} (Bg : Begins v o Hq) (h1 : Hq s.heap)
    (h : ∀ h', IsEnum h' (s.heap.objs.size + 1) s.heap.objs.size 0 .none → h'.get? s.heap.objs.size = some o → (∀ b o, s.heap.get? b = some o → h'.get? b = some o) → Q (.ref (s.heap.objs.size + 1)) { s with heap := h' }) :
    wpAny (model prog w) A (call (.type "enumerate") [v]) Q E s := by
  refine callType_new F.called_enumerate (by decide) (F.typeCall_enumerate_1 _) (F.newCall_enumerate_1 _) (fun obj => F.args_object_init_2 obj _) F.entry_enumerate_new (meets_enum1 Bg) ⟨h1, ?_⟩
  generalize hob : ({ cls := .type "enumerate", data := .fields #[.none, .bool false, .ref s.heap.objs.size, rawInt 0, .none, .none] } : Obj) = ob
  have sz : (s.heap.push o).objs.size = s.heap.objs.size + 1 := Heap.size_push ..
  have at1 : ((s.heap.push o).push ob).get? (s.heap.objs.size + 1) = some ob := by
    rw [← sz, ← hob]
    exact Heap.get?_push_size _ rfl
  have at0 : ((s.heap.push o).push ob).get? s.heap.objs.size = some o := Heap.get?_push_of_some _ (Heap.get?_push_size _ Bg.free)
  show _ ∧ _
  rw [sz]
  refine ⟨⟨_, at1, by rw [← hob]⟩, h _ (by rw [← hob] at at1 ⊢; exact at1) at0 fun b u e => Heap.get?_push_of_some _ (Heap.get?_push_of_some _ e)⟩
/-- the tuple at a, each item in a new pair -/
def IteT (K : PySem.W.Frag) (a : Addr) : It :=
  ⟨fun i H => ∃ (xs : List V) (x : V), SqT K H a xs ∧ xs[i]? = some x, fun i H v H' => ∃ T x, v = .ref T ∧ H T = none ∧ H' = upd H T (.tup [.int (i : Nat), x]) ∧ ∀ xs, SqT K H a xs → xs[i]? = some x, fun i H => ∃ xs : List V, SqT K H a xs ∧ xs.length ≤ i⟩
theorem turn_enumT {P : Program} {w : World} {K : PySem.W.Frag} {elts : List Expr} {kk : Nat} {tpos : Pos} (a e it : Addr) (hae : a ≠ e) (hai : a ≠ it) :
    Turn P w K (.Tuple elts kk tpos) (IteT K a) [e, it] e (fun i h => (∃ old, IsEnum h e it ((i : Nat) : Int) old) ∧ h.IsTupleIter it a i ∧ e ≠ it) where
  mem := by simp
  obj := fun i h st b hb => by
    obtain ⟨⟨old, he⟩, ⟨o, ho, hc, hd⟩, _⟩ := st
    rcases List.mem_cons.mp hb with rfl | hb
    · exact ⟨_, he, fun v q => nomatch q⟩
    · obtain rfl : b = it := by simpa using hb
      exact ⟨o, ho, fun v q => by rw [hd] at q; cases q⟩
  keep := fun i h h' st k => by
    obtain ⟨⟨old, he⟩, hi, hne⟩ := st
    exact ⟨⟨old, k e (by simp) _ he⟩, hi.at fun o q => k it (by simp) o q, hne⟩
  item := by
    intro X hP hw hK hc i pins s σ H E I hf st hg
    subst hP hw hK
    obtain ⟨⟨old, he⟩, hit, hne⟩ := st
    obtain ⟨xs, x, hq, hx⟩ := hg
    obtain ⟨its, rv, p, _⟩ := I.tuple hq
    obtain ⟨u, hu, ru⟩ := rv.get hx
    have le : e < s.heap.objs.size := Heap.lt_size he
    have li : it < s.heap.objs.size := let ⟨_, q, _⟩ := hit; Heap.lt_size q
    have lts : i < its.toArray.size := by
      rw [List.size_toArray]
      exact (List.getElem?_eq_some_iff.mp hu).1
    refine wpAny_pyNext_enum_itemD (Draws.tuple (A := X.A.in1) (I.ok.hd hc) it a hai its.toArray) he ⟨hit, p⟩ lts hne (by simp [hne, Ne.symm hae]) fun y h' tk py ho hst hT hsz hk => ?_
    have ey : y = u := by
      rw [List.getElem?_toArray, hu] at py
      exact (Option.some.inj py).symm
    subst ey
    refine ⟨_, rfl, wpAny_letOwnedTupleGo_enum (s := { s with heap := h', toks := tk + 1 }) ho fun h'' he' sb => ?_⟩
    have new : ObjOk X.prog X.w (upd H s.heap.objs.size (.tup [.int (i : Nat), x])) h'' s.heap.objs.size (.tup [.int (i : Nat), x]) :=
      ⟨show 2 ≤ sizeLine by decide, [.int i tk, y], .cons ⟨_, rfl⟩ (.cons ru .nil), ⟨_, (sb.2 _ (Nat.ne_of_gt le)).trans hT, rfl, _, rfl⟩⟩
    have I1 : Inv X pins σ (upd H s.heap.objs.size (.tup [.int (i : Nat), x])) { s with heap := h'', toks := tk + 1 } :=
      I.turnedNew (ch := [e, it]) (fun b ob hb q => by
        have h1 : b ≠ e := fun z => hb (by simp [z])
        have h2 : b ≠ it := fun z => hb (by simp [z])
        exact (sb.2 b h1).trans (hk b ob h1 h2 q)) hf (Nat.le_refl _) new
    refine ⟨.ref s.heap.objs.size, _, I1, rfl, ⟨_, x, rfl, I.hok.fresh (Nat.le_refl _), rfl, fun ys hy => by rw [I.tuple_inj hy hq]; exact hx⟩, ⟨⟨y, ?_⟩, hst.1.at fun o q => (sb.2 it (Ne.symm hne)).trans q, hne⟩, fun b hb => ?_⟩
    · rw [show ((i + 1 : Nat) : Int) = (i : Int) + 1 by omega]
      exact he'
    · have lb : b < s.heap.objs.size := by
        rcases List.mem_cons.mp hb with rfl | hb
        · exact le
        · obtain rfl : b = it := by simpa using hb
          exact li
      rw [upd_ne (Nat.ne_of_lt lb)]
      exact (hf b hb).1
  done := by
    intro X hP hw hK hc i pins s σ H E I hf st hg
    subst hP hw hK
    obtain ⟨⟨old, he⟩, hit, hne⟩ := st
    obtain ⟨xs, hq, hx⟩ := hg
    obtain ⟨its, rv, p, _⟩ := I.tuple hq
    obtain ⟨f0, f1, f2, f3, f4, f5⟩ := hf it (by simp)
    have hl := rv.length
    have D := Draws.tuple (prog := X.prog) (w := X.w) (A := X.A.in1) (I.ok.hd hc) it a hai its.toArray
    have D' : Draws X.prog X.w X.A.in1 it [it, a] 0 (fun _ _ => True) (fun _ h => h.IsTupleIter it a i ∧ h.IsTuple a its.toArray) :=
      { live := fun _ h st => D.live i h st
        frame := fun _ h h' st hk => D.frame i h h' st hk
        item := fun j s Q E hj _ _ => absurd hj (Nat.not_lt_zero j)
        done := fun s Q E st hE => wpAny_nextOf_tuple_end (A := X.A.in1) (I.ok.hd hc) st.1 st.2 (Array.getElem?_eq_none (by rw [List.size_toArray]; omega)) hE }
    exact wpAny_pyNext_enum_endD D' he ⟨hit, p⟩ fun h' eb => ⟨rfl, I.turned (t' := s.toks) (fun b o hb q => eb b o hb q) f0 f1 f3 f4 f5⟩
  self := fun A i s Q E st h => let ⟨⟨_, he⟩, _⟩ := st; wpAny_pyIter_enum he h
def iEnumT (K : PySem.W.Frag) (ta : TA) : TI := fun σ H R => ta σ H fun vs H1 => ∃ a xs, vs = [.ref a] ∧ SqT K H1 a xs ∧ R (IteT K a) H1
theorem pi_enumT {X : Cx} {e : Expr} {ta : TA} {p pos tpos : Pos} {elts : List Expr} {kk : Nat} (hg : Gl X "enumerate") (hm : X.mg "enumerate" = none) (ha : PA X [e] ta) (hs : starEach [e] X.env = [(false, eval e X.env)] := by rfl) :
    PI X (.Tuple elts kk tpos) (.Call (.Name "enumerate" p) [e] [] pos) (iEnumT X.K ta) := by
  refine ⟨fun pins s σ H R I h => Call_ (ld_blt I hg hm boot_enumerate (PyProof.Rows.callWith_type1 (thn (ha.run pos pins s σ H _ I h) fun us s1 q1 => ?_) hs rfl))⟩
  obtain ⟨vs, H1, I1, r1, a, xs, rfl, hq, q⟩ := q1
  rw [Vals.ref1 r1]
  obtain ⟨its, rv, p', _⟩ := I1.tuple hq
  have la : a < s1.heap.objs.size := let ⟨_, e, _⟩ := p'; Heap.lt_size e
  refine enum_new (begins_tuple a its.toArray) p' fun h' he hit hk => wpAny_pyIter_enum he ?_
  refine ⟨s1.heap.objs.size + 1, [s1.heap.objs.size + 1, s1.heap.objs.size], _, _, H1, rfl, I1.kept (t' := s1.toks) hk, turn_enumT a (s1.heap.objs.size + 1) s1.heap.objs.size (Nat.ne_of_lt (Nat.lt_succ_of_lt la)) (Nat.ne_of_lt la), ⟨⟨.none, he⟩, ⟨_, hit, rfl, rfl⟩, Nat.succ_ne_self _⟩, fun b hb => ?_, q⟩
  have le : s1.heap.objs.size ≤ b := by
    rcases List.mem_cons.mp hb with rfl | hb
    · exact Nat.le_succ _
    · obtain rfl : b = s1.heap.objs.size := by simpa using hb
      exact Nat.le_refl _
  exact I1.fpOk le (I1.hok.fresh le)

/-! ## the walks on data -/
def enumD : Nat → List PyData → List PyData
  | _, [] => []
  | i, d :: r => .tuple [.int (i : Nat), d] :: enumD (i + 1) r
def zipD : List PyData → List PyData → List PyData
  | x :: r, y :: t => .tuple [x, y] :: zipD r t
  | _, _ => []
theorem enumD_at : ∀ (l : List PyData) (a i : Nat) (d : PyData), (enumD a l)[i]? = some d → ∃ x, l[i]? = some x ∧ d = .tuple [.int ((a + i : Nat) : Int), x]
  | [], _, _, _, h => by simp [enumD] at h
  | x :: l, a, 0, d, h => by
    simp [enumD] at h
    exact ⟨x, rfl, h.symm⟩
  | x :: l, a, i + 1, d, h => by
    obtain ⟨y, h1, h2⟩ := enumD_at l (a + 1) i d (by simpa [enumD] using h)
    exact ⟨y, by simpa using h1, by rw [h2]; congr 4; omega⟩
theorem enumD_len : ∀ (l : List PyData) (a : Nat), (enumD a l).length = l.length
  | [], _ => rfl
  | _ :: l, a => by simp [enumD, enumD_len l]
theorem zipD_at : ∀ (l m : List PyData) (i : Nat) (d : PyData), (zipD l m)[i]? = some d → ∃ x y, l[i]? = some x ∧ m[i]? = some y ∧ d = .tuple [x, y]
  | [], _, _, _, h => by simp [zipD] at h
  | _ :: _, [], _, _, h => by simp [zipD] at h
  | x :: l, y :: m, 0, d, h => by
    simp [zipD] at h
    exact ⟨x, y, rfl, rfl, h.symm⟩
  | x :: l, y :: m, i + 1, d, h => by
    obtain ⟨a, b, h1, h2, h3⟩ := zipD_at l m i d (by simpa [zipD] using h)
    exact ⟨a, b, by simpa using h1, by simpa using h2, h3⟩
theorem zipD_len : ∀ (l m : List PyData), (zipD l m).length = min l.length m.length
  | [], _ => by simp [zipD]
  | _ :: _, [] => by simp [zipD]
  | x :: l, y :: m => by simp [zipD, zipD_len l m, Nat.succ_min_succ]
def iEnumD (fd : FD) : FD := fun ρ => (fd ρ).bind fun os => match os with
  | [d] => (dSeq d).map (enumD 0)
  | _ => none
def iZipD (fd : FD) : FD := fun ρ => (fd ρ).bind fun os => match os with
  | [.list l, .list m] => some (zipD l m)
  | [.tuple l, .tuple m] => some (zipD l m)
  | _ => none
section
variable {K : PySem.W.Frag} {Z Z2 : Zs} {H H2 : Hp} {a b : Addr}
theorem new_pair {T : Addr} {x y : V} {d e : PyData} (nT : H2 T = none) (h1 : DpZ K Z2 H2 x d) (h2 : DpZ K Z2 H2 y e) : ∃ Z3, DpZ K Z3 (upd H2 T (.tup [x, y])) (.ref T) (.tuple [d, e]) ∧ Fr H2 [] Z2 (upd H2 T (.tup [x, y])) [] Z3 := by
  have a : Fr H2 [] Z2 (upd H2 T (.tup [x, y])) [] Z2 := upd_fr nT Z2 (fun _ z => z) (fun _ z => .inl z) (fun b m => (nomatch m))
  exact ⟨Z2, .tup upd_same (.cons (h1.still a) (.cons (h2.still a) .nil)), a⟩
theorem iter_e {vs : List V} {l : List PyData} (hz : Z a) (hh : H a = some (.lst vs)) (t : DpZs K Z H vs l) : IterOk K Z H (Ite K a) (enumD 0 l) := fun i Z2 H2 k za => by
  have h2 : SqL K H2 a vs := .of (k.zs _ _ hz hh)
  refine ⟨fun d hd => ?_, fun hl => ⟨vs, h2, by rw [t.length, ← enumD_len l 0]; exact hl⟩⟩
  obtain ⟨x, hx, rfl⟩ := enumD_at l 0 i d hd
  obtain ⟨v, h3, h4⟩ := t.atD hx
  refine ⟨⟨vs, v, h2, h3⟩, fun x H3 y => ?_⟩
  obtain ⟨T, v', rfl, nT, rfl, hy⟩ := y
  have e := (hy vs h2).symm.trans h3
  cases e
  rw [Nat.zero_add]
  exact new_pair nT (.int _) (h4.kp k)
theorem iter_eT {vs : List V} {l : List PyData} (hh : H a = some (.tup vs)) (t : DpZs K Z H vs l) : IterOk K Z H (IteT K a) (enumD 0 l) := fun i Z2 H2 k za => by
  have h2 : SqT K H2 a vs := .of (k.ts _ _ hh)
  refine ⟨fun d hd => ?_, fun hl => ⟨vs, h2, by rw [t.length, ← enumD_len l 0]; exact hl⟩⟩
  obtain ⟨x, hx, rfl⟩ := enumD_at l 0 i d hd
  obtain ⟨v, h3, h4⟩ := t.atD hx
  refine ⟨⟨vs, v, h2, h3⟩, fun x H3 y => ?_⟩
  obtain ⟨T, v', rfl, nT, rfl, hy⟩ := y
  have e := (hy vs h2).symm.trans h3
  cases e
  rw [Nat.zero_add]
  exact new_pair nT (.int _) (h4.kp k)
theorem iter_z {vs ws : List V} {l m : List PyData} (hz : Z a) (hh : H a = some (.lst vs)) (t : DpZs K Z H vs l) (hz2 : Z b) (hh2 : H b = some (.lst ws)) (t2 : DpZs K Z H ws m) : IterOk K Z H (Itz K a b) (zipD l m) := fun i Z2 H2 k za => by
  have q1 : SqL K H2 a vs := .of (k.zs _ _ hz hh)
  have q2 : SqL K H2 b ws := .of (k.zs _ _ hz2 hh2)
  refine ⟨fun d hd => ?_, fun hl => ⟨vs, ws, q1, q2, ?_⟩⟩
  · obtain ⟨x, y, hx, hy, rfl⟩ := zipD_at l m i d hd
    obtain ⟨v, h3, h4⟩ := t.atD hx
    obtain ⟨w, h5, h6⟩ := t2.atD hy
    refine ⟨⟨vs, ws, v, w, q1, q2, h3, h5⟩, fun x H3 y => ?_⟩
    obtain ⟨T, v', w', rfl, nT, rfl, g1, g2⟩ := y
    cases (g1 vs q1).symm.trans h3
    cases (g2 ws q2).symm.trans h5
    exact new_pair nT (h4.kp k) (h6.kp k)
  · rw [zipD_len] at hl
    rw [t.length, t2.length]
    omega
theorem iter_zT {vs ws : List V} {l m : List PyData} (hh : H a = some (.tup vs)) (t : DpZs K Z H vs l) (hh2 : H b = some (.tup ws)) (t2 : DpZs K Z H ws m) : IterOk K Z H (RZ.ItzT K a b) (zipD l m) := fun i Z2 H2 k za => by
  have q1 : SqT K H2 a vs := .of (k.ts _ _ hh)
  have q2 : SqT K H2 b ws := .of (k.ts _ _ hh2)
  refine ⟨fun d hd => ?_, fun hl => ⟨vs, ws, q1, q2, ?_⟩⟩
  · obtain ⟨x, y, hx, hy, rfl⟩ := zipD_at l m i d hd
    obtain ⟨v, h3, h4⟩ := t.atD hx
    obtain ⟨w, h5, h6⟩ := t2.atD hy
    refine ⟨⟨vs, ws, v, w, q1, q2, h3, h5⟩, fun x H3 y => ?_⟩
    obtain ⟨T, v', w', rfl, nT, rfl, g1, g2⟩ := y
    cases (g1 vs q1).symm.trans h3
    cases (g2 ws q2).symm.trans h5
    exact new_pair nT (h4.kp k) (h6.kp k)
  · rw [zipD_len] at hl
    rw [t.length, t2.length]
    omega
end
section
variable {X : Cx} {tg e e2 a b c : Expr} {fd : FD} {fl : FL} {p pos tpos : Pos} {elts : List Expr} {kk : Nat}
theorem one_of {K : PySem.W.Frag} {Z : Zs} {H : Hp} {vs : List V} {d : PyData} (h : DpZs K Z H vs [d]) : ∃ v, vs = [v] ∧ DpZ K Z H v d := by
  cases h with
  | cons h t => cases t; exact ⟨_, rfl, h⟩
theorem two_of {K : PySem.W.Frag} {Z : Zs} {H : Hp} {vs : List V} {d e : PyData} (h : DpZs K Z H vs [d, e]) : ∃ v u, vs = [v, u] ∧ DpZ K Z H v d ∧ DpZ K Z H u e := by
  cases h with
  | cons h t => cases t with
    | cons h2 t => cases t; exact ⟨_, _, rfl, h, h2⟩
theorem i_enum (hg : Gl X "enumerate") (hm : X.mg "enumerate" = none) (ha : DA X [e] fd) (hs : starEach [e] X.env = [(false, eval e X.env)] := by rfl) : DI X (.Tuple elts kk tpos) (.Call (.Name "enumerate" p) [e] [] pos) (iEnumD fd) := PI.imp (DL.PI.or (pi_enum hg hm ha hs) (pi_enumT hg hm ha hs)) fun σ H R q => by
  obtain ⟨Z, ρ, fp, ds, S, e, k⟩ := q
  obtain ⟨os, eo, e⟩ := bind_some e
  split at e
  · rename_i d
    obtain ⟨l, el, rfl⟩ := Option.map_eq_some_iff.mp e
    cases d <;> first | (cases el; done) | skip
    · cases el
      refine .inl ⟨Z, ρ, fp, _, S, eo, fun Z1 H1 vs r1 a1 => ?_⟩
      obtain ⟨v, rfl, q1⟩ := one_of r1
      cases q1 with
      | lst z h t => exact ⟨_, _, rfl, .of h, k Z1 H1 _ (iter_e z h t) a1⟩
    · cases el
      refine .inr ⟨Z, ρ, fp, _, S, eo, fun Z1 H1 vs r1 a1 => ?_⟩
      obtain ⟨v, rfl, q1⟩ := one_of r1
      cases q1 with
      | tup h t => exact ⟨_, _, rfl, .of h, k Z1 H1 _ (iter_eT h t) a1⟩
  · cases e
theorem i_zip (hg : Gl X "zip") (hm : X.mg "zip" = none) (ha : DA X [e, e2] fd) (hs : starEach [e, e2] X.env = (false, eval e X.env) :: starEach [e2] X.env := by rfl) (hpl : (backTo pos (starEach [e2] X.env)).any (·.1) = false := by rfl) :
    DI X (.Tuple elts kk tpos) (.Call (.Name "zip" p) [e, e2] [] pos) (iZipD fd) := PI.imp (RZ.pi_zipA hg hm ha hs hpl) fun σ H R q => by
  obtain ⟨Z, ρ, fp, ds, S, e, k⟩ := q
  obtain ⟨os, eo, e⟩ := bind_some e
  split at e
  · cases e
    refine ⟨Z, ρ, fp, _, S, eo, fun Z1 H1 vs r1 a1 => ?_⟩
    obtain ⟨v, u, rfl, q1, q2⟩ := two_of r1
    cases q1 with
    | lst z h t => cases q2 with
      | lst z2 h2 t2 => exact ⟨_, _, _, _, rfl, .inl ⟨.of h, .of h2, k Z1 H1 _ (iter_z z h t z2 h2 t2) a1⟩⟩
  · cases e
    refine ⟨Z, ρ, fp, _, S, eo, fun Z1 H1 vs r1 a1 => ?_⟩
    obtain ⟨v, u, rfl, q1, q2⟩ := two_of r1
    cases q1 with
    | tup h t => cases q2 with
      | tup h2 t2 => exact ⟨_, _, _, _, rfl, .inr ⟨.of h, .of h2, k Z1 H1 _ (iter_zT h t h2 t2) a1⟩⟩
  · cases e
theorem i_range3 (hg : Gl X "range") (hm : X.mg "range" = none) (ha : PRA X [a, b, c] fl) (hs : starEach [a, b, c] X.env = (false, eval a X.env) :: starEach [b, c] X.env := by rfl) (hpl : (backTo pos (starEach [b, c] X.env)).any (·.1) = false := by rfl) :
    DI X tg (.Call (.Name "range" p) [a, b, c] [] pos) (DL.iRng3 fl) := PI.imp (pi_range3 hg hm ha hs hpl) fun σ H R q => by
  obtain ⟨Z, ρ, fp, ds, S, e, k⟩ := q
  obtain ⟨os, eo, e⟩ := bind_some e
  split at e
  · rename_i x y z
    obtain ⟨i, ei, e⟩ := bind_some e
    obtain ⟨j, ej, e⟩ := bind_some e
    obtain ⟨kk, ek, e⟩ := bind_some e
    obtain ⟨cc, rfl⟩ := ite_ds e
    obtain ⟨c0, cc⟩ := Bool.and_eq_true_iff.mp cc
    obtain ⟨c1, c2⟩ := Bool.and_eq_true_iff.mp cc
    have c0 : kk ≠ 0 := by simpa using c0
    have c1 := of_decide_eq_true c1
    refine ⟨Z, ρ, fp, _, S, eo, fun Z1 H1 vs r1 a1 => ?_⟩
    cases r1 with
    | cons r1 t => cases t with
      | cons r2 t => cases t with
        | cons r3 t =>
          cases t
          have nn : 0 ≤ Builtin.Range.rangeSize i j kk := by
            unfold Builtin.Range.rangeSize
            split
            · split
              · have := Int.ediv_nonneg (a := j - i - 1) (b := kk) (by omega) (by omega)
                omega
              · omega
            · split
              · have := Int.ediv_nonneg (a := i - j - 1) (b := -kk) (by omega) (by omega)
                omega
              · omega
          exact ⟨i, j, kk, (Builtin.Range.rangeSize i j kk).toNat, by rw [asI_rep r1 ei, asI_rep r2 ej, asI_rep r3 ek], ⟨c0, c1, c2, (Int.toNat_of_nonneg nn).symm⟩, k Z1 H1 _ iter_c a1⟩
  · cases e
end
end DL

namespace DL
open PySem PySem.Spec PyProof.Rows L2

/-! ## two clauses -/
def lc2L (ga : FT) (tt : FB) (fi1 : FD) (vs1 : List Nat) (ga1 : FT) (tt1 : FB) (te : F1) : List PyData → Env → Option (List PyData)
  | [], _ => some []
  | d :: ds, ρ => (ga d ρ).bind fun ρ1 => (tt ρ1).bind fun b => if b then (fi1 ρ1).bind fun ds1 => (lcL ga1 tt1 te ds1 (wipeE ρ1 vs1)).bind fun r1 => (lc2L ga tt fi1 vs1 ga1 tt1 te ds ρ).bind fun r => some (r1 ++ r) else lc2L ga tt fi1 vs1 ga1 tt1 te ds ρ
def oLc2 (n : Nat) (vs vs1 : List Nat) (fi : FD) (ga : FT) (tt : FB) (fi1 : FD) (ga1 : FT) (tt1 : FB) (te : F1) : F1 := fun ρ => if Nat.beq ρ.length n then (fi ρ).bind fun ds => (lc2L ga tt fi1 vs1 ga1 tt1 te ds (wipeE ρ vs)).bind fun l => if short l then some (.lst l) else none else none
section
variable {X : Cx} {K : PySem.W.Frag} {pos : Pos} {fi fi1 : FD} {ga ga1 : FT} {tt tt1 : FB} {te : F1} {n : Nat} {vs vs1 : List Nat}
theorem wipeE_len (ρ : Env) : ∀ vs : List Nat, (wipeE ρ vs).length = ρ.length
  | [] => rfl
  | v :: vs => by unfold wipeE; rw [List.length_set, wipeE_len ρ vs]
theorem runLc2 {σ : L2.St} {H : Hp} {Q : VK} (h : tP K (oLc2 n vs vs1 fi ga tt fi1 ga1 tt1 te) σ H Q) : tLc2 (tI K fi) (tG K (offs n vs) ga) (tT K tt) (tI K fi1) (tG K (offs n vs1) ga1) (tT K tt1) (tP K te) vs vs1 σ H Q := by
  obtain ⟨Z, ρ, fp, o, S, e, k⟩ := h
  have e : (if Nat.beq ρ.length n = true then (fi ρ).bind fun ds => (lc2L ga tt fi1 vs1 ga1 tt1 te ds (wipeE ρ vs)).bind fun l => if short l = true then some (.lst l) else none else none) = some o := e
  split at e
  · rename_i hn
    have hn : ρ.length = n := Nat.eq_of_beq_eq_true hn
    obtain ⟨ds, ed, e⟩ := bind_some e
    obtain ⟨l, el, e⟩ := bind_some e
    obtain ⟨hs, rfl⟩ := ite_ob e
    have hs := short_ok hs
    refine ⟨Z, ρ, fp, ds, S, ed, fun Z1 H1 J it a1 D nD => ?_⟩
    have S1 := S.still a1
    have za1 := S1.za
    have nzD : ¬ Z1 D := fun z => by
      obtain ⟨o, q⟩ := za1 D z
      rw [nD] at q; cases q
    -- what holds of the list that grows
    let Gr : Hp → Zs → List V → List PyData → Prop := fun H2 Z2 av ad => H2 D = some (.lst av) ∧ DpZs K Z2 H2 av ad ∧ ¬ Z2 D ∧ Fr H1 [] Z1 H2 [D] Z2
    have ownD : ∀ {Z : Zs} {H : Hp} {av : List V}, H D = some (.lst av) → ¬ Z D → Own Z H [D] := fun q z => ⟨by simp, fun a m => by rw [List.mem_singleton.mp m]; exact z, fun a m => by rw [List.mem_singleton.mp m]; exact ⟨_, q, trivial⟩⟩
    have step : ∀ {H2 : Hp} {Z2 : Zs} {av : List V} {ad : List PyData} {Z4 : Zs} {H4 : Hp}, Gr H2 Z2 av ad → Fr H2 [] Z2 H4 [] Z4 → Gr H4 Z4 av ad := fun {H2 Z2 av ad Z4 H4} ⟨hD, dv, nz2, a2⟩ a4 => by
      refine ⟨a4.same _ _ hD (by simp), dv.still a4, fun z => ?_, a2.trans (tail_fr a4)⟩
      rcases a4.znew D _ hD z with z | z
      · exact nz2 z
      · cases z
    refine ⟨fun i m H2 => ∃ Z2 av ad rest, m = ds.length - i ∧ i ≤ ds.length ∧ Gr H2 Z2 av ad ∧ lc2L ga tt fi1 vs1 ga1 tt1 te (ds.drop i) (wipeE ρ vs) = some rest ∧ ad ++ rest = l,
      ⟨_, Z1, [], [], l, rfl, Nat.zero_le _, ⟨upd_same, .nil, nzD, upd_fr nD Z1 (fun _ z => z) (fun _ z => .inl z) (fun b m => by simpa using m)⟩, el, rfl⟩, ?_⟩
    rintro i m H2 ⟨Z2, av, ad, rest, rfl, hi, gr, e2, el2⟩
    have a2 := gr.2.2.2
    have a2' : Fr H1 [] Z1 H2 [] Z2 := a2.less fun _ m => (nomatch m)
    have S2 := S1.still a2'
    obtain ⟨go, stop⟩ := it i Z2 H2 ⟨a2.zup, fun b u z e => a2.same b u e (by simp), fun b xs e => a2.same b _ e (by simp)⟩ S2.za
    by_cases hlt : i < ds.length
    · obtain ⟨g1, g2⟩ := go ds[i] (List.getElem?_eq_getElem hlt)
      rw [List.drop_eq_getElem_cons hlt] at e2
      obtain ⟨ρ3, e3, e2⟩ := bind_some (show ((ga ds[i] (wipeE ρ vs)).bind fun ρ1 => (tt ρ1).bind fun b => if b = true then (fi1 ρ1).bind fun ds1 => (lcL ga1 tt1 te ds1 (wipeE ρ1 vs1)).bind fun r1 => (lc2L ga tt fi1 vs1 ga1 tt1 te (ds.drop (i + 1)) (wipeE ρ vs)).bind fun r => some (r1 ++ r) else lc2L ga tt fi1 vs1 ga1 tt1 te (ds.drop (i + 1)) (wipeE ρ vs)) = some rest from e2)
      obtain ⟨b, eb, e2⟩ := bind_some e2
      refine .inr ⟨g1, fun H' => ∃ Z2 av ad rest, i + 1 ≤ ds.length ∧ Gr H' Z2 av ad ∧ lc2L ga tt fi1 vs1 ga1 tt1 te (ds.drop (i + 1)) (wipeE ρ vs) = some rest ∧ ad ++ rest = l, fun H' ⟨Z2, av, ad, rest, q⟩ => ⟨_, by omega, Z2, av, ad, rest, rfl, q⟩, fun x H3 y => ?_⟩
      obtain ⟨Z3, dx, a3⟩ := g2 x H3 y
      have S3 := S2.still a3
      obtain ⟨fpw, Sw, sw⟩ := S3.wipe vs
      refine ⟨Z3, _, fpw, ds[i], ρ3, Sw, dx, e3, fun σ4 fp4 S4 s4 k4 => ⟨wipe_back (by rw [S.er.len]; exact hn) k4, Z3, ρ3, fp4, b, S4, eb, fun Z5 H5 a5 => ?_⟩⟩
      have a35 := a3.trans a5
      cases b with
      | false =>
        rw [if_neg Bool.false_ne_true] at e2
        exact L2.iteF ⟨Z5, av, ad, rest, hlt, step gr a35, e2, el2⟩
      | true =>
        rw [if_pos rfl] at e2
        refine L2.iteT ?_
        obtain ⟨ds1, ed1, e2⟩ := bind_some e2
        obtain ⟨r1, er1, e2⟩ := bind_some e2
        obtain ⟨r2, er2, e2⟩ := bind_some e2
        cases e2
        have len4 : σ4.length = n := by
          have q := k4.len
          rw [wipe_length, S.er.len, hn] at q
          exact q
        have S5 := S4.still a5
        refine ⟨Z5, ρ3, fp4, ds1, S5, ed1, fun Z6 H6 J1 it1 a6 => ?_⟩
        have S6 := S5.still a6
        have gr6 := step gr (a35.trans a6)
        refine ⟨fun j m H7 => ∃ Z7 av ad rest, m = ds1.length - j ∧ j ≤ ds1.length ∧ Gr H7 Z7 av ad ∧ Fr H6 [D] Z6 H7 [D] Z7 ∧ lcL ga1 tt1 te (ds1.drop j) (wipeE ρ3 vs1) = some rest ∧ ad ++ (rest ++ r2) = l, ⟨_, Z6, av, ad, r1, rfl, Nat.zero_le _, gr6, .refl, er1, el2⟩, ?_⟩
        rintro j m H7 ⟨Z7, av, ad, rest, rfl, hj, gr7, a7, e7, el7⟩
        have ow6 : Own Z6 H6 [D] := ownD gr6.1 gr6.2.2.1
        have dj : ∀ b ∈ fp4, b ∉ [D] := fun b mb md => by
          obtain rfl : b = D := by simpa using md
          obtain ⟨o, eo, _⟩ := S1.own.al b (sw b (s4 b mb))
          rw [nD] at eo; cases eo
        have ow67 : Own Z6 H6 (fp4 ++ [D]) := ⟨List.nodup_append.mpr ⟨S6.own.nd, by simp, fun x m y m' q => dj x m (q ▸ m')⟩, fun x m => (List.mem_append.mp m).elim (S6.own.nz x) (ow6.nz x), fun x m => (List.mem_append.mp m).elim (S6.own.al x) (ow6.al x)⟩
        have S7 : Stt K Z7 H7 σ4 ρ3 fp4 := ⟨S6.er.keep a7 ow6.nt dj ow6.nzf, (ow67.aside a7 (ownD gr7.1 gr7.2.2.1)).left, a7.zal S6.za⟩
        obtain ⟨go1, stop1⟩ := it1 j Z7 H7 (a7.kp ow6) S7.za
        by_cases hlt1 : j < ds1.length
        · obtain ⟨g3, g4⟩ := go1 ds1[j] (List.getElem?_eq_getElem hlt1)
          rw [List.drop_eq_getElem_cons hlt1] at e7
          obtain ⟨ρ5, e5, e7⟩ := bind_some (show ((ga1 ds1[j] (wipeE ρ3 vs1)).bind fun ρ1 => (tt1 ρ1).bind fun b => if b = true then (te ρ1).bind fun o => (fz o).bind fun x => (lcL ga1 tt1 te (ds1.drop (j + 1)) (wipeE ρ3 vs1)).bind fun r => some (x :: r) else lcL ga1 tt1 te (ds1.drop (j + 1)) (wipeE ρ3 vs1)) = some rest from e7)
          obtain ⟨b, eb, e7⟩ := bind_some e7
          refine .inr ⟨g3, fun H' => ∃ Z7 av ad rest, j + 1 ≤ ds1.length ∧ Gr H' Z7 av ad ∧ Fr H6 [D] Z6 H' [D] Z7 ∧ lcL ga1 tt1 te (ds1.drop (j + 1)) (wipeE ρ3 vs1) = some rest ∧ ad ++ (rest ++ r2) = l, fun H' ⟨Z7, av, ad, rest, q⟩ => ⟨_, by omega, Z7, av, ad, rest, rfl, q⟩, fun x H8 y => ?_⟩
          obtain ⟨Z8, dx8, a8⟩ := g4 x H8 y
          have S8 := S7.still a8
          obtain ⟨fpw8, Sw8, _⟩ := S8.wipe vs1
          refine ⟨Z8, _, fpw8, ds1[j], ρ5, Sw8, dx8, e5, fun σ9 fp9 S9 s9 k9 => ⟨wipe_back len4 k9, Z8, ρ5, fp9, b, S9, eb, fun Z10 H10 a10 => ?_⟩⟩
          have a8x := a8.trans a10
          have tr : ∀ {Z : Zs} {H : Hp}, Fr H7 [] Z7 H [] Z → Fr H6 [D] Z6 H [D] Z := fun q => a7.trans (tail_fr q)
          cases b with
          | false =>
            rw [if_neg Bool.false_ne_true] at e7
            exact L2.iteF ⟨Z10, av, ad, rest, hlt1, step gr7 a8x, tr a8x, e7, el7⟩
          | true =>
            rw [if_pos rfl] at e7
            refine L2.iteT ?_
            obtain ⟨o6, e6, e7⟩ := bind_some e7
            obtain ⟨x6, ex6, e7⟩ := bind_some e7
            obtain ⟨r6, er6, e7⟩ := bind_some e7
            cases e7
            refine ⟨Z10, ρ5, fp9, o6, S9.still a10, e6, fun Z11 H11 v6 g6 r6' o6' a11 => ?_⟩
            have a11' := a11.frz0 o6'
            obtain ⟨s1, s2, s3, s4'⟩ := step gr7 (a8x.trans a11')
            have dz := r6'.frz ex6
            have nt : ∀ xs, H11 D ≠ some (.tup xs) := fun xs q => by rw [s1] at q; cases q
            have u1 := Fr.upd1 (Z := fun b => Z11 b ∨ b ∈ g6) (o := .lst (av ++ [v6])) ⟨_, s1⟩ (show D ∈ [D] by simp)
            have sml : av.length < sizeLine := by
              have q1 := s2.length
              have q2 := congrArg List.length el7
              rw [List.length_append, List.length_append, List.length_cons] at q2
              omega
            refine ⟨av, s1, sml, _, av ++ [v6], ad ++ [x6], r6, hlt1, ⟨upd_same, (s2.upd s3 nt).append (.cons (dz.upd s3 nt) .nil), s3, s4'.trans u1⟩, (tr (a8x.trans a11')).trans u1, er6, by rw [← el7]; simp⟩
        · have hl : ds1.length ≤ j := Nat.le_of_not_lt hlt1
          rw [List.drop_eq_nil_of_le hl] at e7
          cases e7
          exact .inl ⟨stop1 hl, Z7, av, ad, r2, hlt, gr7, er2, by rw [← el7]; simp⟩
    · have hl : ds.length ≤ i := Nat.le_of_not_lt hlt
      rw [List.drop_eq_nil_of_le hl] at e2
      cases e2
      rw [List.append_nil] at el2
      subst el2
      obtain ⟨hD, dv, nz2, a2⟩ := gr
      exact .inl ⟨stop hl, k Z2 H2 (.ref D) [D] (.lst hD dv) (ownD hD nz2) ((a1.trans a2))⟩
  · cases e
theorem d_lc2 {elt tg iter tg1 iter1 : Expr} {ifs ifs1 : List Expr} {scope : Scope} (own : List (Str × Nat)) (vs1 : List Nat) {n : Nat} (hc : X.calm = true) (hN : X.N.Nodup) (hi : DI X tg iter fi) (ok : BlkOk X.N X.env.scope scope own) (hv : ∀ i ∈ vs1, i ∈ own.map (·.2))
    (hg : BlkAll X scope fun X => DG X (offs n (own.map (·.2))) tg ga) (ht : BlkAll X scope fun X => TDs X ifs tt) (hi1 : BlkAll X scope fun X => DI X tg1 iter1 fi1) (hg1 : BlkAll X scope fun X => DG X (offs n vs1) tg1 ga1) (ht1 : BlkAll X scope fun X => TDs X ifs1 tt1) (he : BlkAll X scope fun X => DP X elt te)
    (hs : ∀ x, foldedSetIterable iter X.env x = pure x := by intro _; rfl) (hs1 : ∀ env x, foldedSetIterable iter1 env x = pure x := by intro _ _; rfl) :
    DP X (.ListComp elt [⟨tg, iter, ifs, 0⟩, ⟨tg1, iter1, ifs1, 0⟩] scope pos) (oLc2 n (own.map (·.2)) vs1 fi ga tt fi1 ga1 tt1 te) := PE.imp (pe_lc2 hc hN hi ok hv hg ht hi1 hg1 ht1 he hs hs1) fun _ _ _ h => runLc2 h
theorem s_setLc2 (i : Nat) {B : List Nat} {y : Str} {py spos : Pos} {elt tg iter tg1 iter1 : Expr} {ifs ifs1 : List Expr} {scope : Scope} (own : List (Str × Nat)) (vs1 : List Nat) {n : Nat} (hc : X.calm = true) (hN : X.N.Nodup) (hi : DI X tg iter fi) (ok : BlkOk X.N X.env.scope scope own) (hv : ∀ i ∈ vs1, i ∈ own.map (·.2))
    (hg : BlkAll X scope fun X => DG X (offs n (own.map (·.2))) tg ga) (ht : BlkAll X scope fun X => TDs X ifs tt) (hi1 : BlkAll X scope fun X => DI X tg1 iter1 fi1) (hg1 : BlkAll X scope fun X => DG X (offs n vs1) tg1 ga1) (ht1 : BlkAll X scope fun X => TDs X ifs1 tt1) (he : BlkAll X scope fun X => DP X elt te)
    (hsw : swapsWith (.ListComp elt [⟨tg, iter, ifs, 0⟩, ⟨tg1, iter1, ifs1, 0⟩] scope pos) (some (.Name y py)) spos.line X.env = pure true) (hy : X.N[i]? = some y := by rfl) (hyl : X.env.scope.names.lookup y = some .local := by rfl) (hB : i ∉ B := by decide)
    (hs : ∀ x, foldedSetIterable iter X.env x = pure x := by intro _; rfl) (hs1 : ∀ env x, foldedSetIterable iter1 env x = pure x := by intro _ _; rfl) :
    DS X B (.Assign [.Name y py] (.ListComp elt [⟨tg, iter, ifs, 0⟩, ⟨tg1, iter1, ifs1, 0⟩] scope pos) spos) (fSet i (oLc2 n (own.map (·.2)) vs1 fi ga tt fi1 ga1 tt1 te)) := PS.imp (ps_setLc2 hc hN hy hyl hsw hi ok hv hg ht hi1 hg1 ht1 he hs hs1) fun D σ H h => runSet (fun _ _ _ h => runLc2 h) hB h
end

/-! ## list(range(..)), tuple(range(..)) -/
theorem rgV_rep {K : PySem.W.Frag} {Z : Zs} {H : Hp} (a b : Int) : DpZs K Z H (rgV a b) (rangeD a (b - a).toNat) := by
  unfold rgV
  generalize (b - a).toNat = n
  have all : ∀ (n : Nat) (a : Int) (m : Nat), DpZs K Z H ((List.range' m n).map fun i => V.int (a + (i : Nat))) (rangeD (a + (m : Nat)) n) := by
    intro n
    induction n with
    | zero => intro a m; exact .nil
    | succ n ih =>
      intro a m
      rw [List.range'_succ, List.map_cons]
      have q := ih a (m + 1)
      rw [show a + ((m + 1 : Nat) : Int) = a + (m : Int) + 1 by omega] at q
      exact .cons (.int _) q
  have q := all n a 0
  rw [List.range_eq_range']
  simpa using q
section
variable {X : Cx} {a b : Expr} {fa fb : F1} {p p2 pos pos2 : Pos}
def rg1 (f : F1) : Env → Option (Int × Int) := fun ρ => (f ρ).bind fun x => (asI x).map fun i => (0, i)
def rg2 (f g : F1) : Env → Option (Int × Int) := fun ρ => (f ρ).bind fun x => (g ρ).bind fun y => (asI x).bind fun i => (asI y).map fun j => (i, j)
def rgOk (i j : Int) : Bool := sm62 i && (sm62 j && Nat.ble (j - i).toNat 16777216)
theorem rgOk_ok {i j : Int} (h : rgOk i j = true) : RgOk i j := by
  obtain ⟨h1, h⟩ := Bool.and_eq_true_iff.mp h
  obtain ⟨h2, h3⟩ := Bool.and_eq_true_iff.mp h
  obtain ⟨a1, a2⟩ := sm62_ok h1
  obtain ⟨a3, a4⟩ := sm62_ok h2
  exact ⟨a1, a2, a3, a4, Nat.le_of_ble_eq_true h3⟩
def dLRg (r : Env → Option (Int × Int)) : F1 := fun ρ => (r ρ).bind fun q => if rgOk q.1 q.2 then some (.lst (rangeD q.1 (q.2 - q.1).toNat)) else none
def dTRg (r : Env → Option (Int × Int)) : F1 := fun ρ => (r ρ).bind fun q => if rgOk q.1 q.2 then some (.fr (.tuple (rangeD q.1 (q.2 - q.1).toNat))) else none
def tRg (K : PySem.W.Frag) (r : Env → Option (Int × Int)) : L2.St → Hp → (Int → Int → Hp → Prop) → Prop := fun σ H Q => ∃ Z ρ fp i j, Stt K Z H σ ρ fp ∧ r ρ = some (i, j) ∧ ∀ Z' H', Fr H [] Z H' [] Z' → Q i j H'
abbrev RG (X : Cx) (e : Expr) (r : Env → Option (Int × Int)) : Prop := PRg X e (tRg X.K r)
theorem rg_1 (hg : Gl X "range") (hm : X.mg "range" = none) (ha : PR X a fa) (na : starEach [a] X.env = (false, eval a X.env) :: starEach [] X.env := by rfl) : RG X (.Call (.Name "range" p) [a] [] pos) (rg1 fa) := fun pins s σ H Q I h => by
  obtain ⟨Z, ρ, fp, i, j, S, e, k⟩ := h
  obtain ⟨x, ex, e⟩ := bind_some e
  obtain ⟨i', ei, e⟩ := Option.map_eq_some_iff.mp e
  cases e
  exact prg_1 hg hm ha na pins s σ H Q I ⟨Z, ρ, fp, x, S, ex, fun Z1 H1 v g r a1 => ⟨j, asI_rep r ei, k Z1 H1 a1⟩⟩
theorem rg_2 (hg : Gl X "range") (hm : X.mg "range" = none) (ha : PR X a fa) (hb : PR X b fb) (na : starEach [a, b] X.env = (false, eval a X.env) :: starEach [b] X.env := by rfl) (nb : starEach [b] X.env = (false, eval b X.env) :: starEach [] X.env := by rfl) (hp : (backTo pos (starEach [b] X.env)).any (·.1) = false := by rfl) :
    RG X (.Call (.Name "range" p) [a, b] [] pos) (rg2 fa fb) := fun pins s σ H Q I h => by
  obtain ⟨Z, ρ, fp, i, j, S, e, k⟩ := h
  obtain ⟨x, ex, e⟩ := bind_some e
  obtain ⟨y, ey, e⟩ := bind_some e
  obtain ⟨i', ei, e⟩ := bind_some e
  obtain ⟨j', ej, e⟩ := Option.map_eq_some_iff.mp e
  cases e
  exact prg_2 hg hm ha hb na nb hp pins s σ H Q I ⟨Z, ρ, fp, x, S, ex, fun Z1 H1 v g r a1 => ⟨Z1, ρ, fp, y, S.still a1, ey, fun Z2 H2 v2 g2 r2 a2 => ⟨i, j, asI_rep r ei, asI_rep r2 ej, k Z2 H2 (a1.trans a2)⟩⟩⟩
variable {e : Expr} {r : Env → Option (Int × Int)}
theorem d_listRg (hc : X.calm = true) (hg : Gl X "list") (hm : X.mg "list" = none) (he : RG X e r) (na : starEach [e] X.env = (false, eval e X.env) :: starEach [] X.env := by rfl) : DP X (.Call (.Name "list" p) [e] [] pos) (dLRg r) := PE.imp (pe_listRg hc hg hm he na) fun σ H Q h => by
  obtain ⟨Z, ρ, fp, o, S, e, k⟩ := h
  obtain ⟨⟨i, j⟩, ei, e⟩ := bind_some e
  obtain ⟨c, rfl⟩ := ite_ob e
  exact ⟨Z, ρ, fp, i, j, S, ei, fun Z1 H1 a1 => ⟨rgOk_ok c, Rst.lst (fun Z3 H3 v3 g3 r3 o3 a3 => k Z3 H3 v3 g3 r3 o3 (a1.trans a3)) (rgV_rep i j) (a1.zal S.za)⟩⟩
theorem d_tupRg (hc : X.calm = true) (hg : Gl X "tuple") (hm : X.mg "tuple" = none) (he : RG X e r) (na : starEach [e] X.env = (false, eval e X.env) :: starEach [] X.env := by rfl) : DP X (.Call (.Name "tuple" p) [e] [] pos) (dTRg r) := PE.imp (pe_tupRg hc hg hm he na) fun σ H Q h => by
  obtain ⟨Z, ρ, fp, o, S, e, k⟩ := h
  obtain ⟨⟨i, j⟩, ei, e⟩ := bind_some e
  obtain ⟨c, rfl⟩ := ite_ob e
  exact ⟨Z, ρ, fp, i, j, S, ei, fun Z1 H1 a1 => ⟨rgOk_ok c, Rst.tup (fun Z3 H3 v3 g3 r3 o3 a3 => k Z3 H3 v3 g3 r3 o3 (a1.trans a3)) (rgV_rep i j)⟩⟩
end
end DL

namespace DL
open PySem PySem.Spec PyProof.Rows L2

/-! ## expressions that write -/
abbrev FE := Env → Option (Ob × Env)
def tE (K : PySem.W.Frag) (f : FE) : TE := fun σ H Q => ∃ Z ρ fp o ρ', Stt K Z H σ ρ fp ∧ f ρ = some (o, ρ') ∧
  ∀ Z' H' v g fp', RepO K Z' H' v o g → Stt K Z' H' σ ρ' fp' → Own Z' H' (g ++ fp') → Fr H fp Z H' (g ++ fp') Z' → Q v H'
abbrev DE (X : Cx) (e : Expr) (f : FE) : Prop := PE X e (tE X.K f)
abbrev FDE := Env → Option (List PyData × Env)
def tEA (K : PySem.W.Frag) (f : FDE) : TA := fun σ H Q => ∃ Z ρ fp ds ρ', Stt K Z H σ ρ fp ∧ f ρ = some (ds, ρ') ∧
  ∀ Z' H' vs fp', DpZs K Z' H' vs ds → Stt K Z' H' σ ρ' fp' → Fr H fp Z H' fp' Z' → Q vs H'
abbrev EA (X : Cx) (es : List Expr) (f : FDE) : Prop := PA X es (tEA X.K f)
abbrev FBE := Env → Option (Bool × Env)
def tTE (K : PySem.W.Frag) (f : FBE) : TT := fun σ H Q => ∃ Z ρ fp b ρ', Stt K Z H σ ρ fp ∧ f ρ = some (b, ρ') ∧ ∀ Z' H' fp', Stt K Z' H' σ ρ' fp' → Fr H fp Z H' fp' Z' → Q b H'
abbrev ET (X : Cx) (e : Expr) (f : FBE) : Prop := PT X e (tTE X.K f)
abbrev EW (X : Cx) (e : Expr) (f : FBE) : Prop := PW X e (tTE X.K f)
section
variable {K : PySem.W.Frag} {Z Z1 : Zs} {H H1 : Hp} {σ : L2.St} {ρ ρ1 : Env} {fp fp1 g : List Addr} {v : V} {o : Ob} {d : PyData}
theorem Fr.frzW (a : Fr H fp Z H1 (g ++ fp1) Z1) (ow : Own Z1 H1 (g ++ fp1)) : Fr H fp Z H1 fp1 (fun b => Z1 b ∨ b ∈ g) where
  same := a.same
  zup := fun b z => .inl (a.zup b z)
  znew := fun b o e z => z.elim (a.znew b o e) fun m => .inr (a.new b o e (List.mem_append_left _ m))
  new := fun b o e m => a.new b o e (List.mem_append_right _ m)
  zal := fun q b z => z.elim (a.zal q b) fun m => let ⟨o, e, _⟩ := ow.al b (List.mem_append_left _ m); ⟨o, e⟩
theorem frzE (S1 : Stt K Z1 H1 σ ρ1 fp1) (r : RepO K Z1 H1 v o g) (ow : Own Z1 H1 (g ++ fp1)) (a : Fr H fp Z H1 (g ++ fp1) Z1) (h0 : Own Z H fp) (e : fz o = some d) :
    ∃ Z2, Stt K Z2 H1 σ ρ1 fp1 ∧ DpZ K Z2 H1 v d ∧ Fr H fp Z H1 fp1 Z2 := by
  refine ⟨fun b => Z1 b ∨ b ∈ g, ⟨S1.er.up fun _ z => .inl z, ⟨S1.own.nd, fun b m z => z.elim (S1.own.nz b m) fun z => ow.apart b z m, S1.own.al⟩, fun b z => z.elim (S1.za b) fun m => let ⟨o, q, _⟩ := ow.al b (List.mem_append_left _ m); ⟨o, q⟩⟩, r.frz e, a.frzW ow⟩
theorem Stt.owned (S : Stt K Z H σ ρ fp) : Own Z H fp := S.own
/-- a pure, separate result behind something that wrote -/
theorem Rst.behind {Q : VK} (S : Stt K Z H σ ρ fp) (S1 : Stt K Z1 H1 σ ρ1 fp1) (a : Fr H fp Z H1 fp1 Z1)
    (k : ∀ Z' H' v g fp', RepO K Z' H' v o g → Stt K Z' H' σ ρ1 fp' → Own Z' H' (g ++ fp') → Fr H fp Z H' (g ++ fp') Z' → Q v H') : Rst K Z1 H1 o Q := fun Z2 H2 v g r ow a2 => by
  obtain ⟨S2, ow2, fr⟩ := beside S1 ow a2
  exact k Z2 H2 v g fp1 r S2 ow2 (a.trans fr)
end
def eP (f : F1) : FE := fun ρ => (f ρ).bind fun o => some (o, ρ)
def eaNil : FDE := fun ρ => some ([], ρ)
def eaCons (f : FE) (r : FDE) : FDE := fun ρ => (f ρ).bind fun p => (fz p.1).bind fun d => (r p.2).bind fun q => some (d :: q.1, q.2)
def eO (g : List PyData → Option Ob) (r : FDE) : FE := fun ρ => (r ρ).bind fun p => (g p.1).bind fun o => some (o, p.2)
def e2O (g : Ob → Ob → Option Ob) (f f' : FE) : FE := fun ρ => (f ρ).bind fun p => (fz p.1).bind fun d => (f' p.2).bind fun q => (fz q.1).bind fun d' => (g (.fr d) (.fr d')).bind fun o => some (o, q.2)
def e1O (g : Ob → Option Ob) (f : FE) : FE := fun ρ => (f ρ).bind fun p => (fz p.1).bind fun d => (g (.fr d)).bind fun o => some (o, p.2)
def e1L (g : List Ob → Option Ob) (f : FE) : FE := fun ρ => (f ρ).bind fun p => (fz p.1).bind fun d => (g [.fr d]).bind fun o => some (o, p.2)
def mkTup (l : List PyData) : Option Ob := if short l then some (.fr (.tuple l)) else none
def mkLst (l : List PyData) : Option Ob := if short l then some (.lst l) else none
section
variable {X : Cx} {pos p : Pos} {a b c e : Expr} {es rest : List Expr} {f : F1} {fa fb : FE} {fl : FDE} {ta tb : FBE}
theorem e_p (h : DP X e f) : DE X e (eP f) := PE.imp h fun σ H Q h => by
  obtain ⟨Z, ρ, fp, o, ρ', S, e, k⟩ := h
  obtain ⟨x, ex, e⟩ := bind_some e
  cases e
  exact ⟨Z, ρ, fp, o, S, ex, fun Z1 H1 v1 g1 r1 o1 a1 => by
    obtain ⟨S1, ow, fr⟩ := beside S o1 a1
    exact k Z1 H1 v1 g1 fp r1 S1 ow fr⟩
theorem ea_nil : EA X [] eaNil := PA.imp pa_nil fun σ H Q h => by
  obtain ⟨Z, ρ, fp, ds, ρ', S, e, k⟩ := h
  cases e
  exact k Z H [] fp .nil S .refl
theorem ea_cons (ha : DE X e fa) (hr : EA X es fl) (hs : starEach (e :: es) X.env = (false, eval e X.env) :: starEach es X.env := by rfl) : EA X (e :: es) (eaCons fa fl) := PA.imp (pa_cons ha hr hs) fun σ H Q h => by
  obtain ⟨Z, ρ, fp, ds, ρ', S, e, k⟩ := h
  obtain ⟨⟨o1, ρ1⟩, e1, e⟩ := bind_some e
  obtain ⟨d1, ed, e⟩ := bind_some e
  obtain ⟨⟨ds2, ρ2⟩, e2, e⟩ := bind_some e
  cases e
  refine ⟨Z, ρ, fp, o1, ρ1, S, e1, fun Z1 H1 v1 g1 fp1 r1 S1 ow a1 => ?_⟩
  obtain ⟨Z2, S2, dz, a2⟩ := frzE S1 r1 ow a1 S.own ed
  exact ⟨Z2, ρ1, fp1, ds2, ρ2, S2, e2, fun Z3 H3 vs fp3 dv S3 a3 => k Z3 H3 (v1 :: vs) fp3 (.cons (dz.kp (a3.kp S2.own)) dv) S3 (a2.trans a3)⟩
theorem e_tup {x1} (h : EA X es fl) : DE X (.Tuple es x1 pos) (eO mkTup fl) := PE.imp (pe_tup h) fun σ H Q h => by
  obtain ⟨Z, ρ, fp, o, ρ', S, e, k⟩ := h
  obtain ⟨⟨ds, ρ1⟩, e1, e⟩ := bind_some e
  obtain ⟨o1, eo, e⟩ := bind_some e
  cases e
  obtain ⟨c, rfl⟩ := ite_ob eo
  exact ⟨Z, ρ, fp, ds, ρ1, S, e1, fun Z1 H1 vs fp1 dv S1 a1 => ⟨by rw [dv.length]; exact short_ok c, Rst.tup (Rst.behind S S1 a1 k) dv⟩⟩
theorem e_lst (h : EA X es fl) : DE X (.List es pos) (eO mkLst fl) := PE.imp (pe_lst h) fun σ H Q h => by
  obtain ⟨Z, ρ, fp, o, ρ', S, e, k⟩ := h
  obtain ⟨⟨ds, ρ1⟩, e1, e⟩ := bind_some e
  obtain ⟨o1, eo, e⟩ := bind_some e
  cases e
  obtain ⟨c, rfl⟩ := ite_ob eo
  exact ⟨Z, ρ, fp, ds, ρ1, S, e1, fun Z1 H1 vs fp1 dv S1 a1 => ⟨by rw [dv.length]; exact short_ok c, Rst.lst (Rst.behind S S1 a1 k) dv S1.za⟩⟩
theorem run2E {K : PySem.W.Frag} {r : R2} {g : Ob → Ob → Option Ob} (hg : Rd2 K r g) {σ : L2.St} {H : Hp} {Q : VK} (h : tE K (e2O g fa fb) σ H Q) : tOp r (tE K fa) (tE K fb) σ H Q := by
  obtain ⟨Z, ρ, fp, o, ρ', S, e, k⟩ := h
  obtain ⟨⟨o1, ρ1⟩, e1, e⟩ := bind_some e
  obtain ⟨d1, ed1, e⟩ := bind_some e
  obtain ⟨⟨o2, ρ2⟩, e2, e⟩ := bind_some e
  obtain ⟨d2, ed2, e⟩ := bind_some e
  obtain ⟨o3, eo, e⟩ := bind_some e
  cases e
  refine ⟨Z, ρ, fp, o1, ρ1, S, e1, fun Z1 H1 v1 g1 fp1 r1 S1 ow1 a1 => ?_⟩
  obtain ⟨Y1, T1, dz1, b1⟩ := frzE S1 r1 ow1 a1 S.own ed1
  refine ⟨Y1, ρ1, fp1, o2, _, T1, e2, fun Z2 H2 v2 g2 fp2 r2 S2 ow2 a2 => ?_⟩
  obtain ⟨Y2, T2, dz2, b2⟩ := frzE S2 r2 ow2 a2 T1.own ed2
  exact hg Y2 H2 v1 v2 _ _ [] [] o Q T2.za (.fr (dz1.kp (b2.kp T1.own))) (.fr dz2) eo (Rst.behind S T2 (b1.trans b2) k)
theorem e_op2 {op : Operator} {r : R2} {g : Ob → Ob → Option Ob} (ho : OpR X (binaryOp op) r) (hg : Rd2 X.K r g) (ha : DE X a fa) (hb : DE X b fb) : DE X (.BinOp a op b pos) (e2O g fa fb) := PE.imp (pe_op ho ha hb) fun _ _ _ h => run2E hg h
theorem e_cmp {op : CmpOp} {r : R2} {g : Ob → Ob → Option Ob} (ho : OpR X (compareOp op) r) (hg : Rd2 X.K r g) (ha : DE X a fa) (hb : DE X b fb) (hm : behindInMarks op b = false := by rfl) : DE X (.Compare a [op] [b] pos) (e2O g fa fb) := PE.imp (pe_cmpR ho ha hb hm) fun _ _ _ h => run2E hg h
theorem e_ix (ha : DE X a fa) (hb : DE X b fb) (hs : PlainIx b := by intro _ _; rfl) : DE X (.Subscript a b pos) (e2O ixO fa fb) := PE.imp (pe_ix ix_seq ha hb hs) fun _ _ _ h => run2E rd_ix h
theorem run1L {K : PySem.W.Frag} {r : List V → Hp → VK → Prop} {g : List Ob → Option Ob} (hg : RdL K r g) {σ : L2.St} {H : Hp} {Q : VK} (h : tE K (e1L g fa) σ H Q) : tCB r (fun σ H Q => tE K fa σ H fun v H' => Q [v] H') σ H Q := by
  obtain ⟨Z, ρ, fp, o, ρ', S, e, k⟩ := h
  obtain ⟨⟨o1, ρ1⟩, e1, e⟩ := bind_some e
  obtain ⟨d1, ed1, e⟩ := bind_some e
  obtain ⟨o3, eo, e⟩ := bind_some e
  cases e
  refine ⟨Z, ρ, fp, o1, ρ1, S, e1, fun Z1 H1 v1 g1 fp1 r1 S1 ow1 a1 => ?_⟩
  obtain ⟨Y1, T1, dz1, b1⟩ := frzE S1 r1 ow1 a1 S.own ed1
  exact hg Y1 H1 [v1] _ o Q T1.za (.cons (.fr dz1) .nil) eo (Rst.behind S T1 b1 k)
theorem pa_one {te : TE} (ha : PE X e te) (hs : starEach [e] X.env = (false, eval e X.env) :: starEach [] X.env) : PA X [e] (fun σ H Q => te σ H fun v H' => Q [v] H') := pa_cons ha pa_nil hs
theorem e_callB {id : String} {x : Str} {r : List V → Hp → VK → Prop} {g : List Ob → Option Ob} (hc : CallR X (.builtin id) r) (hgr : RdL X.K r g) (hg : Gl X x) (hm : X.mg x = none) (hv : bootBuiltins x = some (.builtin id)) (ha : DE X e fa)
    (hn : x ≠ "__name__" := by decide) (hdb : (x == ("__debug__" : Str)) = false := by decide) (he : starEach [e] X.env = (false, eval e X.env) :: starEach [] X.env := by rfl) (hpl : (backTo pos (starEach [] X.env)).any (·.1) = false := by rfl) : DE X (.Call (.Name x p) [e] [] pos) (e1L g fa) :=
  PE.imp (pe_callB hc hg hm hv (pa_one ha he) hn hdb he hpl) fun _ _ _ h => run1L hgr h
theorem e_callTy {T : String} {x : Str} {r : List V → Hp → VK → Prop} {g : List Ob → Option Ob} (hc : CallR X (.type T) r) (hgr : RdL X.K r g) (hg : Gl X x) (hm : X.mg x = none) (hv : bootBuiltins x = some (.type T)) (ha : DE X e fa)
    (hn : x ≠ "__name__" := by decide) (hdb : (x == ("__debug__" : Str)) = false := by decide) (he : starEach [e] X.env = (false, eval e X.env) :: starEach [] X.env := by rfl) (hpl : (backTo pos (starEach [] X.env)).any (·.1) = false := by rfl) : DE X (.Call (.Name x p) [e] [] pos) (e1L g fa) :=
  PE.imp (pe_callTy hc hg hm hv (pa_one ha he) hn hdb he hpl) fun _ _ _ h => run1L hgr h
/-! ### tests -/
def eBO (f : FE) : FBE := fun ρ => (f ρ).bind fun p => (asB p.1).bind fun b => some (b, p.2)
def ePB (f : FB) : FBE := fun ρ => (f ρ).bind fun b => some (b, ρ)
def eNot (f : FBE) : FBE := fun ρ => (f ρ).bind fun p => some (!p.1, p.2)
def eAnd (f g : FBE) : FBE := fun ρ => (f ρ).bind fun p => if p.1 then g p.2 else some (false, p.2)
def eOr (f g : FBE) : FBE := fun ρ => (f ρ).bind fun p => if p.1 then some (true, p.2) else g p.2
def eIf (c : FBE) (f g : FE) : FE := fun ρ => (c ρ).bind fun p => if p.1 then f p.2 else g p.2
def eAndV (f g : FE) : FE := fun ρ => (f ρ).bind fun p => (asB p.1).bind fun b => if b then g p.2 else some (.fr (.bool false), p.2)
def eOrV (f g : FE) : FE := fun ρ => (f ρ).bind fun p => (asB p.1).bind fun b => if b then some (.fr (.bool true), p.2) else g p.2
theorem asB_eq {o : Ob} {b : Bool} (h : asB o = some b) : o = .fr (.bool b) := by
  cases o with
  | fr d =>
    cases d with
    | bool j => cases h; rfl
    | _ => cases h
  | _ => cases h
theorem RepO.flatg {K : PySem.W.Frag} {Z : Zs} {H : Hp} {v : V} {d : PyData} {g : List Addr} (r : RepO K Z H v (.fr d) g) : g = [] := by
  cases r; rfl
theorem tTestE_of {K : PySem.W.Frag} {t : TE} {f : FE} {σ : L2.St} {H : Hp} {Q : Bool → Hp → Prop} (ht : ∀ Q : VK, tE K f σ H Q → t σ H Q) (h : tTE K (eBO f) σ H Q) : tTest t σ H Q := by
  obtain ⟨Z, ρ, fp, b, ρ', S, e, k⟩ := h
  obtain ⟨⟨o1, ρ1⟩, e1, e⟩ := bind_some e
  obtain ⟨b', eb, e⟩ := bind_some e
  cases e
  refine ht _ ⟨Z, ρ, fp, o1, ρ1, S, e1, fun Z1 H1 v1 g1 fp1 r1 S1 ow1 a1 => ⟨b, asB_rep r1 eb, k Z1 H1 fp1 S1 (a1.less fun x m => List.mem_append_right _ m)⟩⟩
theorem et_p {f : FB} (h : TD X e f) : ET X e (ePB f) := PT.imp h fun σ H Q h => by
  obtain ⟨Z, ρ, fp, b, ρ', S, e, k⟩ := h
  obtain ⟨b', eb, e⟩ := bind_some e
  cases e
  exact ⟨Z, ρ, fp, b, S, eb, fun Z1 H1 a1 => k Z1 H1 fp (S.still a1) (tail_fr a1)⟩
theorem et_cmp {op : CmpOp} {r : R2} {g : Ob → Ob → Option Ob} (ho : OpR X (compareOp op) r) (hg : Rd2 X.K r g) (ha : DE X a fa) (hb : DE X b fb) (hm : behindInMarks op b = false := by rfl) : ET X (.Compare a [op] [b] pos) (eBO (e2O g fa fb)) :=
  PT.imp (pt_cmpR ho ha hb hm) fun _ _ _ h => tTestE_of (fun _ q => run2E hg q) h
theorem et_val {f : FE} (h : DE X e f) (he : ∀ whole, isTrue e X.env whole = (do let v ← whole; standAt e.pos; holding [v] (truthy v)) := by intro _; rfl) : ET X e (eBO f) :=
  PT.imp (pt_val h he) fun _ _ _ h => tTestE_of (fun _ q => q) h
theorem et_not (h : ET X a ta) : ET X (.UnaryOp .Not a pos) (eNot ta) := PT.imp (pt_not h) fun σ H Q h => by
  obtain ⟨Z, ρ, fp, b, ρ', S, e, k⟩ := h
  obtain ⟨⟨b', ρ1⟩, eb, e⟩ := bind_some e
  cases e
  exact ⟨Z, ρ, fp, b', ρ1, S, eb, k⟩
theorem ew_and1 (h : ET X a ta) : EW X (.BoolOp .And [a] pos) ta := pw_and1 h
theorem ew_or1 (h : ET X a ta) : EW X (.BoolOp .Or [a] pos) ta := pw_or1 h
theorem ew_and (h : ET X a ta) (h2 : EW X (.BoolOp .And (b :: rest) pos) tb) : EW X (.BoolOp .And (a :: b :: rest) pos) (eAnd ta tb) := PW.imp (pw_and h h2) fun σ H Q h => by
  obtain ⟨Z, ρ, fp, o, ρ', S, e, k⟩ := h
  obtain ⟨⟨b, ρ1⟩, eb, e⟩ := bind_some e
  refine ⟨Z, ρ, fp, b, ρ1, S, eb, fun Z1 H1 fp1 S1 a1 => ?_⟩
  cases b with
  | true =>
    rw [if_pos rfl] at e ⊢
    exact ⟨Z1, ρ1, fp1, o, ρ', S1, e, fun Z2 H2 fp2 S2 a2 => k Z2 H2 fp2 S2 (a1.trans a2)⟩
  | false =>
    rw [if_neg Bool.false_ne_true] at e ⊢
    cases e
    exact k Z1 H1 fp1 S1 a1
theorem ew_or (h : ET X a ta) (h2 : EW X (.BoolOp .Or (b :: rest) pos) tb) : EW X (.BoolOp .Or (a :: b :: rest) pos) (eOr ta tb) := PW.imp (pw_or h h2) fun σ H Q h => by
  obtain ⟨Z, ρ, fp, o, ρ', S, e, k⟩ := h
  obtain ⟨⟨b, ρ1⟩, eb, e⟩ := bind_some e
  refine ⟨Z, ρ, fp, b, ρ1, S, eb, fun Z1 H1 fp1 S1 a1 => ?_⟩
  cases b with
  | true =>
    rw [if_pos rfl] at e ⊢
    cases e
    exact k Z1 H1 fp1 S1 a1
  | false =>
    rw [if_neg Bool.false_ne_true] at e ⊢
    exact ⟨Z1, ρ1, fp1, o, ρ', S1, e, fun Z2 H2 fp2 S2 a2 => k Z2 H2 fp2 S2 (a1.trans a2)⟩
theorem et_w (h : EW X e ta) : ET X e ta := h.pt
theorem e_if (hc : ET X c ta) (ha : DE X a fa) (hb : DE X b fb) : DE X (.IfExp c a b pos) (eIf ta fa fb) := PE.imp (pe_ifExp hc ha hb) fun σ H Q h => by
  obtain ⟨Z, ρ, fp, o, ρ', S, e, k⟩ := h
  obtain ⟨⟨b, ρ1⟩, eb, e⟩ := bind_some e
  refine ⟨Z, ρ, fp, b, ρ1, S, eb, fun Z1 H1 fp1 S1 a1 => ?_⟩
  cases b with
  | true =>
    rw [if_pos rfl] at e ⊢
    exact ⟨Z1, ρ1, fp1, o, ρ', S1, e, fun Z2 H2 v g fp2 r S2 ow a2 => k Z2 H2 v g fp2 r S2 ow (a1.trans a2)⟩
  | false =>
    rw [if_neg Bool.false_ne_true] at e ⊢
    exact ⟨Z1, ρ1, fp1, o, ρ', S1, e, fun Z2 H2 v g fp2 r S2 ow a2 => k Z2 H2 v g fp2 r S2 ow (a1.trans a2)⟩
theorem e_one {op} (h : DE X a fa) : DE X (.BoolOp op [a] pos) fa := pe_one h
theorem e_and (h : DE X a fa) (h2 : DE X (.BoolOp .And (b :: rest) pos) fb) : DE X (.BoolOp .And (a :: b :: rest) pos) (eAndV fa fb) := PE.imp (pe_and h h2) fun σ H Q h => by
  obtain ⟨Z, ρ, fp, o, ρ', S, e, k⟩ := h
  obtain ⟨⟨x, ρ1⟩, ex, e⟩ := bind_some e
  obtain ⟨b, eb, e⟩ := bind_some e
  refine ⟨Z, ρ, fp, x, ρ1, S, ex, fun Z1 H1 v1 g1 fp1 r1 S1 ow1 a1 => ⟨b, asB_rep r1 eb, ?_⟩⟩
  have a1' : Fr H fp Z H1 fp1 Z1 := a1.less fun x m => List.mem_append_right _ m
  cases b with
  | true =>
    rw [if_pos rfl] at e ⊢
    exact ⟨Z1, ρ1, fp1, o, ρ', S1, e, fun Z2 H2 v g fp2 r S2 ow a2 => k Z2 H2 v g fp2 r S2 ow (a1'.trans a2)⟩
  | false =>
    rw [if_neg Bool.false_ne_true] at e ⊢
    cases e
    exact k Z1 H1 _ [] fp1 (.fr (.bl _)) S1 S1.own a1'
theorem e_or (h : DE X a fa) (h2 : DE X (.BoolOp .Or (b :: rest) pos) fb) : DE X (.BoolOp .Or (a :: b :: rest) pos) (eOrV fa fb) := PE.imp (pe_or h h2) fun σ H Q h => by
  obtain ⟨Z, ρ, fp, o, ρ', S, e, k⟩ := h
  obtain ⟨⟨x, ρ1⟩, ex, e⟩ := bind_some e
  obtain ⟨b, eb, e⟩ := bind_some e
  refine ⟨Z, ρ, fp, x, ρ1, S, ex, fun Z1 H1 v1 g1 fp1 r1 S1 ow1 a1 => ⟨b, asB_rep r1 eb, ?_⟩⟩
  have a1' : Fr H fp Z H1 fp1 Z1 := a1.less fun x m => List.mem_append_right _ m
  cases b with
  | true =>
    rw [if_pos rfl] at e ⊢
    cases e
    exact k Z1 H1 _ [] fp1 (.fr (.bl _)) S1 S1.own a1'
  | false =>
    rw [if_neg Bool.false_ne_true] at e ⊢
    exact ⟨Z1, ρ1, fp1, o, ρ', S1, e, fun Z2 H2 v g fp2 r S2 ow a2 => k Z2 H2 v g fp2 r S2 ow (a1'.trans a2)⟩

/-! ### statements -/
variable {B : List Nat}
def fSetE (i : Nat) (f : FE) : FS := fun ρ => (f ρ).bind fun p => some (.nx (p.2.set i (some p.1)))
def fRetE (f : FE) : FS := fun ρ => (f ρ).bind fun p => some (.rt p.1 p.2)
def fIfE (c : FBE) (f g : FS) : FS := fun ρ => (c ρ).bind fun p => if p.1 then f p.2 else g p.2
def fTgE (f : FE) (ga : FT) : FS := fun ρ => (f ρ).bind fun p => (fz p.1).bind fun d => (ga d p.2).bind fun ρ' => some (.nx ρ')
theorem s_setE (i : Nat) {x : Str} {pos' : Pos} (hN : X.N.Nodup) (he : DE X e fa) (hi : X.N[i]? = some x := by rfl) (hx : Loc X.env.scope x := by first | exact .inl rfl | exact .inr rfl) (hB : i ∉ B := by decide) (hs : swapsWith e (some (.Name x pos')) pos.line X.env = pure false := by rfl) (hf : X.fn x = true ∨ X.env.scope.names.lookup x = some .local := by first | exact .inl rfl | exact .inr rfl) :
    DS X B (.Assign [.Name x pos'] e pos) (fSetE i fa) := PS.imp (ps_set hN hi hx he hs hf) fun D σ H h => by
  obtain ⟨Z, ρ, fp, r, S, e, k⟩ := h
  obtain ⟨⟨o, ρ1⟩, eo, e⟩ := bind_some e
  cases e
  refine ⟨Z, ρ, fp, o, ρ1, S, eo, fun Z1 H1 v1 g1 fp1 r1 S1 ow a1 => ?_⟩
  obtain ⟨fp', S2, hs⟩ := S1.set r1 ow i
  exact k Z1 H1 _ fp' S2 (a1.less hs) (kpB_set hB)
theorem s_retE (h : DE X e fa) : DS X B (.Return (some e) pos) (fRetE fa) := PS.imp (ps_ret h) fun D σ H h => by
  obtain ⟨Z, ρ, fp, r, S, e, k⟩ := h
  obtain ⟨⟨o, ρ1⟩, eo, e⟩ := bind_some e
  cases e
  exact ⟨Z, ρ, fp, o, ρ1, S, eo, fun Z1 H1 v1 g1 fp1 r1 S1 ow a1 => k Z1 H1 σ fp1 v1 g1 S1 r1 ow a1 .rfl⟩
theorem s_ifE {sa sb : List Stmt} {f g : FS} (hc : ET X c ta) (ha : DSs X B sa f) (hb : DSs X B sb g) : DS X B (.If c sa sb pos) (fIfE ta f g) := PS.imp (ps_if hc ha hb) fun D σ H h => by
  obtain ⟨Z, ρ, fp, r, S, e, k⟩ := h
  obtain ⟨⟨b, ρ1⟩, eb, e⟩ := bind_some e
  refine ⟨Z, ρ, fp, b, ρ1, S, eb, fun Z1 H1 fp1 S1 a1 => ?_⟩
  cases b with
  | true =>
    rw [if_pos rfl] at e ⊢
    exact ⟨Z1, ρ1, fp1, r, S1, e, k.on a1 .rfl⟩
  | false =>
    rw [if_neg Bool.false_ne_true] at e ⊢
    exact ⟨Z1, ρ1, fp1, r, S1, e, k.on a1 .rfl⟩
/-- tg = e, of frozen data -/
theorem s_tgE {tg : Expr} {ga : FT} (he : DE X e fa) (hg : DG X B tg ga) (hs : swapsWithSole [tg] e pos.line X.env = pure false := by rfl) (hw : swappedStores [tg] e X.env = pure none := by rfl)
    (h1 : (assignEach [tg] X.env).map (·.2) = [assign tg X.env] := by rfl) : DS X B (.Assign [tg] e pos) (fTgE fa ga) := PS.imp (ps_asg he hg hs hw h1) fun D σ H h => by
  obtain ⟨Z, ρ, fp, r, S, e, k⟩ := h
  obtain ⟨⟨o, ρ1⟩, eo, e⟩ := bind_some e
  obtain ⟨d, ed, e⟩ := bind_some e
  obtain ⟨ρ2, e2, e⟩ := bind_some e
  cases e
  refine ⟨Z, ρ, fp, o, ρ1, S, eo, fun Z1 H1 v1 g1 fp1 r1 S1 ow a1 => ?_⟩
  obtain ⟨Y1, T1, dz1, b1⟩ := frzE S1 r1 ow a1 S.own ed
  exact ⟨Y1, ρ1, fp1, d, ρ2, T1, dz1, e2, fun σ' fp' S' s' k' => k Y1 H1 σ' fp' S' (b1.less s') k'⟩
/-- a, b = x, y of plain locals, with writing -/
def setFr : List Nat → List PyData → Env → Option Env
  | [], [], ρ => some ρ
  | i :: is, d :: ds, ρ => setFr is ds (ρ.set i (some (.fr d)))
  | _, _, _ => none
def fParE (is : List Nat) (fl : FDE) : FS := fun ρ => (fl ρ).bind fun p => (setFr is p.1 p.2).bind fun ρ' => some (.nx ρ')
theorem s_parE2 (i j : Nat) {x y : Str} {px py pt pt2 : Pos} {kt k2 : Nat} (hc : X.calm = true) (hN : X.N.Nodup) (ha : EA X [a, b] fl) (hi : X.N[i]? = some x := by rfl) (hj : X.N[j]? = some y := by rfl) (hij : i ≠ j := by decide)
    (hx : X.env.scope.names.lookup x = some .local := by rfl) (hy : X.env.scope.names.lookup y = some .local := by rfl) (hBi : i ∉ B := by decide) (hBj : j ∉ B := by decide)
    (hw : swappedStores [.Tuple [.Name x px, .Name y py] kt pt] (.Tuple [a, b] k2 pt2) X.env = pure (some [x, y]) := by rfl) (hs : swapsWithSole [.Tuple [.Name x px, .Name y py] kt pt] (.Tuple [a, b] k2 pt2) pos.line X.env = pure false := by rfl) :
    DS X B (.Assign [.Tuple [.Name x px, .Name y py] kt pt] (.Tuple [a, b] k2 pt2) pos) (fParE [i, j] fl) := PS.imp (ps_par hc hN hi hj hij hx hy ha hw hs) fun D σ H h => by
  obtain ⟨Z, ρ, fp, r, S, e, k⟩ := h
  obtain ⟨⟨ds, ρ1⟩, eo, e⟩ := bind_some e
  obtain ⟨ρ2, e2, e⟩ := bind_some e
  cases e
  refine ⟨Z, ρ, fp, ds, ρ1, S, eo, fun Z1 H1 vs fp1 dv S1 a1 => ?_⟩
  match ds, e2, dv with
  | [d1, d2], e2, dv =>
    cases e2
    obtain ⟨v, u, rfl, q1, q2⟩ := two_of dv
    obtain ⟨fp2, S2, s2⟩ := S1.set (g := []) (.fr q1) (by simpa using S1.own) i
    obtain ⟨fp3, S3, s3⟩ := S2.set (g := []) (.fr q2) (by simpa using S2.own) j
    refine ⟨v, u, rfl, k Z1 H1 _ fp3 S3 (a1.less fun b m => ?_) ((kpB_set hBi).trans (kpB_set hBj))⟩
    have q := s3 b m
    simp only [List.nil_append] at q
    have q := s2 b q
    simpa using q
  | [], e2, _ => cases e2
  | [_], e2, _ => cases e2
  | _ :: _ :: _ :: _, e2, _ => cases e2
end
end DL

namespace DL
open PySem PySem.Spec PyProof.Rows L2

/-! ## calls with a first argument that is lent -/
abbrev FnB := Ob → List PyData → Option (Ob × Ob)
def spB (K : PySem.W.Frag) (n : Nat) (F : FnB) : Sp := fun vs H Q _ => ∃ v0 rest Z o g ds r o', vs = v0 :: rest ∧ Za Z H ∧ RepO K Z H v0 o g ∧ Own Z H g ∧ DpZs K Z H rest ds ∧ ds.length = n ∧ F o ds = some (r, o') ∧
  ∀ Z' H' v g' gr, RepO K Z' H' v r gr → RepO K Z' H' v0 o' g' → Own Z' H' (gr ++ g') → Fr H g Z H' (gr ++ g') Z' → Q v H'
/-- a def's call with frozen arguments, some of which write -/
def eCall (n : Nat) (F : Fn) (fl : FDE) : FE := fun ρ => (fl ρ).bind fun p => if Nat.beq p.1.length n then (F p.1).bind fun o => some (o, p.2) else none
def eCallB (i n : Nat) (F : FnB) (fl : FDE) : FE := fun ρ => match ρ[i]? with
  | some (some _) => (fl ρ).bind fun p => if Nat.beq p.1.length n then match p.2[i]? with
    | some (some o) => (F o p.1).bind fun q => some (q.1, p.2.set i (some q.2))
    | _ => none
    else none
  | _ => none
def startB (m : Nat) (o : Ob) (ds : List PyData) : Env := some o :: (ds.map (fun d => some (.fr d)) ++ List.replicate (m - (ds.length + 1)) none)
def fnOfB (m : Nat) (f : FS) : FnB := fun o ds => (f (startB m o ds)).bind fun r => match r with
  | .rt x ρ' => (ρ'[0]?).join.bind fun o' => some (x, o')
  | .nx ρ' => (ρ'[0]?).join.bind fun o' => some (.fr .none, o')
  | _ => none
section
variable {X : Cx} {CX : CXT} {k : Nat} {f : Addr} {fd : FuncData} {ps : List Str} {E : XK} {x y : Str} {p p0 pos : Pos} {e : Expr} {es : List Expr} {fl : FDE} {n : Nat} {F : Fn} {G : FnB}
theorem e_call (F' : FnOk X.prog X.w X.K X.mg X.base CX0 k f fd ps (spP X.K n F)) (hr : Room k X.A) (hg : Gl X x) (hm : X.mg x = some (.ref f)) (hk : PySem.W.keepIn X.K (.ref f) = true) (hb : Binds X.K fd ps [])
    (ha : EA X (e :: es) fl) (hdb : (x == ("__debug__" : Str)) = false := by decide) (he : starEach (e :: es) X.env = (false, eval e X.env) :: starEach es X.env := by rfl) (hpl : (backTo pos (starEach es X.env)).any (·.1) = false := by rfl) :
    DE X (.Call (.Name x p) (e :: es) [] pos) (eCall n F fl) := PE.imp (pe_call F' hr hg hm hk hb .nil pass0 ha hdb he hpl) fun σ H Q h => by
  obtain ⟨Z, ρ, fp, o, ρ', S, e, kk⟩ := h
  obtain ⟨⟨ds, ρ1⟩, ed, e⟩ := bind_some e
  split at e
  · rename_i hn
    obtain ⟨o1, eo, e⟩ := bind_some e
    cases e
    refine ⟨Z, ρ, fp, ds, ρ1, S, ed, fun Z1 H1 vs fp1 dv S1 a1 => ?_⟩
    show spP X.K n F (vs ++ []) H1 Q E0
    rw [List.append_nil]
    exact ⟨Z1, ds, o, S1.za, dv, Nat.eq_of_beq_eq_true hn, eo, Rst.behind S S1 a1 kk⟩
  · cases e
/-- the arguments, the first one a local's own object -/
theorem ea_lent (i : Nat) (hN : X.N[i]? = some y := by rfl) (hv : Vis X.env.scope y := by first | exact Or.inl rfl | exact Or.inr (Or.inl rfl) | exact Or.inr (Or.inr rfl)) (hd : (y == ("__debug__" : Str)) = false := by decide)
    (hcd : (y == ("__classdict__" : Str)) = false := by decide) (hr : EA X es fl) (hs : starEach (.Name y p0 :: es) X.env = (false, eval (.Name y p0) X.env) :: starEach es X.env := by rfl) :
    PA X (.Name y p0 :: es) (fun σ H Q => ∃ v, σ[i]? = some (some v) ∧ tEA X.K fl σ H fun vs H' => Q (v :: vs) H') := PA.imp (pa_cons (pe_var hN hv hd hcd) hr hs) fun σ H Q h => h
theorem e_lent (i : Nat) (F' : FnOk X.prog X.w X.K X.mg X.base CX0 k f fd ps (spB X.K n G)) (hr : Room k X.A) (hg : Gl X x) (hm : X.mg x = some (.ref f)) (hk : PySem.W.keepIn X.K (.ref f) = true) (hb : Binds X.K fd ps [])
    (ha : EA X es fl) (hN : X.N[i]? = some y := by rfl) (hv : Vis X.env.scope y := by first | exact Or.inl rfl | exact Or.inr (Or.inl rfl) | exact Or.inr (Or.inr rfl)) (hd : (y == ("__debug__" : Str)) = false := by decide)
    (hcd : (y == ("__classdict__" : Str)) = false := by decide) (hdb : (x == ("__debug__" : Str)) = false := by decide) (he : starEach (.Name y p0 :: es) X.env = (false, eval (.Name y p0) X.env) :: starEach es X.env := by rfl) (hpl : (backTo pos (starEach es X.env)).any (·.1) = false := by rfl) :
    DE X (.Call (.Name x p) (.Name y p0 :: es) [] pos) (eCallB i n G fl) := PE.imp (pe_call F' hr hg hm hk hb .nil pass0 (ea_lent i hN hv hd hcd ha he) hdb he hpl) fun σ H Q h => by
  obtain ⟨Z, ρ, fp, o, ρ', S, e, kk⟩ := h
  unfold eCallB at e
  split at e
  · rename_i ob0 eb0
    obtain ⟨⟨ds, ρ1⟩, ed, e⟩ := bind_some e
    split at e
    · rename_i hn
      split at e
      · rename_i ob eb
        obtain ⟨⟨r, o'⟩, eo, e⟩ := bind_some e
        cases e
        obtain ⟨v0, _, h0, _, _⟩ := S.er.get eb0
        refine ⟨v0, h0, Z, ρ, fp, ds, ρ1, S, ed, fun Z1 H1 vs fp1 dv S1 a1 => ?_⟩
        show spB X.K n G (v0 :: vs ++ []) H1 Q E0
        rw [List.append_nil]
        obtain ⟨v, g, h1, h2, ow, wr⟩ := S1.write eb
        rw [h0] at h1
        cases h1
        refine ⟨v0, vs, Z1, ob, g, ds, r, o', rfl, S1.za, h2, ow, dv, Nat.eq_of_beq_eq_true hn, eo, fun Z2 H2 v2 g2 gr r2 r3 ow2 a2 => ?_⟩
        obtain ⟨fp2, S2, ow3, a3⟩ := wr Z2 H2 o' g2 gr a2 r3 ow2
        exact kk Z2 H2 v2 gr fp2 r2 S2 ow3 (a1.trans a3)
      · cases e
    · cases e
  · cases e
/-- THE RULE for a def with a lent first argument -/
theorem startB_er {K : PySem.W.Frag} {Z : Zs} {H : Hp} {N : List Str} {vs : List V} {ds : List PyData} {v0 : V} {o : Ob} {g : List Addr} (r : RepO K Z H v0 o g) (h : DpZs K Z H vs ds) : ER K Z H (L2.start N (v0 :: vs)) (startB N.length o ds) g := by
  have q := start_er (N := N) h (N.length - (ds.length + 1))
  have e : L2.start N (v0 :: vs) = some v0 :: (vs.map some ++ List.replicate (N.length - (ds.length + 1)) none) := by
    unfold L2.start
    rw [List.length_cons, h.length]
    rfl
  rw [e]
  have w := ER.one r q
  rw [List.append_nil] at w
  exact w
theorem fn_okB {P : Program} {w : World} {K : PySem.W.Frag} {mg : Str → Option Value} {base : Heap} {qx qual : Str} {params : Arguments} {body : List Stmt} {scope : Scope} {N : List Str} {k m n : Nat} {fs : FS} (Fd : FunD K qx qual params body scope [] [] f fd) (S : FnScope N ps scope) (hps : ps.length = n + 1) (hN : N.length = m)
    (h : ∀ (cdv : Value) (A : Around) (outer : List PySem.Env) (s : Shared) (H : Hp) (E : XK), Room k (A.deeper (envOfC qual scope s.heap.objs.size f cdv)) → DSs (cxOf CX0 P w K mg base N qual scope f cdv A outer s H E).nox [0] body fs) :
    FnOk P w K mg base CX0 (k + 1) f fd ps (spB K n (fnOfB m fs)) := by
  refine Fd.ok S (fun vs H Q E h => ?_) fun cdv A outer s H vs Q E hr hq => ⟨_, (h cdv A outer s H E hr).nox, ?_⟩
  · obtain ⟨v0, rest, Z, o, g, ds, r, o', rfl, _, _, _, h1, h2, _⟩ := h
    rw [List.length_cons, h1.length, h2, hps]
  · obtain ⟨v0, rest, Z, o, g, ds, x, o', rfl, za, r0, ow, h1, h2, h3, q⟩ := hq
    obtain ⟨r, er, e⟩ := bind_some h3
    have er0 : ER K Z H (start N (v0 :: rest)) (startB m o ds) g := by rw [← hN]; exact startB_er r0 h1
    refine ⟨Z, startB m o ds, g, r, ⟨er0, ow, za⟩, er, ?_⟩
    have sig0 : (start N (v0 :: rest))[0]? = some (some v0) := rfl
    -- the lent object at the end
    have last : ∀ {Z' : Zs} {H' : Hp} {σ' : L2.St} {ρ' : Env} {fp' : List Addr}, Stt K Z' H' σ' ρ' fp' → KpB [0] (start N (v0 :: rest)) σ' → (ρ'[0]?).join = some o' → ∃ g', RepO K Z' H' v0 o' g' ∧ ∀ gr, Own Z' H' (gr ++ fp') → Own Z' H' (gr ++ g') ∧ ∀ b ∈ gr ++ g', b ∈ gr ++ fp' := fun {Z' H' σ' ρ' fp'} S' kb eo => by
      have eo' : ρ'[0]? = some (some o') := by
        cases q : ρ'[0]? with
        | none => rw [q] at eo; cases eo
        | some x => rw [q] at eo; rw [show x = some o' from eo]
      obtain ⟨v, g', A, C, rfl, h1, h2, _⟩ := S'.er.split eo'
      have k0 := kb.at_ 0 (by simp)
      rw [h1, sig0] at k0
      cases k0
      refine ⟨g', h2, fun gr ow' => ?_⟩
      have sub : ∀ b ∈ gr ++ g', b ∈ gr ++ (A ++ (g' ++ C)) := fun b m => by
        rcases List.mem_append.mp m with m | m
        · exact List.mem_append_left _ m
        · exact List.mem_append_right _ (List.mem_append_right _ (List.mem_append_left _ m))
      refine ⟨ow'.sub sub ?_, sub⟩
      obtain ⟨n1, n2, n3⟩ := List.nodup_append.mp ow'.nd
      obtain ⟨_, n5, _⟩ := List.nodup_append.mp n2
      obtain ⟨n7, _, _⟩ := List.nodup_append.mp n5
      exact List.nodup_append.mpr ⟨n1, n7, fun a m b m' => n3 a m b (List.mem_append_right _ (List.mem_append_left _ m'))⟩
    cases r with
    | rt y ρ' =>
      obtain ⟨o2, e2, e⟩ := bind_some e
      cases e
      intro Z' H' σ' fp' v gr S' r' ow' a kb
      obtain ⟨g', r2, own⟩ := last S' kb e2
      obtain ⟨ow2, sub⟩ := own gr ow'
      exact q Z' H' v g' gr r' r2 ow2 (a.less sub)
    | nx ρ' =>
      obtain ⟨o2, e2, e⟩ := bind_some e
      cases e
      intro Z' H' σ' fp' S' a kb
      obtain ⟨g', r2, own⟩ := last S' kb e2
      obtain ⟨ow2, sub⟩ := own [] (by simpa using S'.own)
      exact q Z' H' .non g' [] (.fr .non) r2 ow2 (a.less fun b m => by simpa using sub b m)
    | bk _ => cases e
    | ct _ => cases e
end
end DL

namespace DL
open PySem PySem.Spec PyProof.Rows L2

/-! ## the source of picks -/
inductive SK where
  | left | mixed | turn
def SK.key : SK → Str
  | .left => PySem.Str.ofString "left"
  | .mixed => PySem.Str.ofString "mixed"
  | .turn => PySem.Str.ofString "turn"
def SK.get : SK → Int → Int → Int → Int
  | .left, a, _, _ => a
  | .mixed, _, b, _ => b
  | .turn, _, _, c => c
def SK.put : SK → Int → List Int → Int → Int → Int → Ob
  | .left, x, l, _, b, c => .src l x b c
  | .mixed, x, l, a, _, c => .src l a x c
  | .turn, x, l, a, b, _ => .src l a b x
abbrev srcT (c : Addr) (a b d : Int) : List (Key × V) := [(kCells, .ref c), (kLeft, .int a), (kMixed, .int b), (kTurn, .int d)]
theorem srcT_get (c : Addr) (a b d : Int) (k : SK) : valV (srcT c a b d) (.inr k.key) = some (.int (k.get a b d)) := by
  cases k <;> rfl
theorem srcT_cells (c : Addr) (a b d : Int) : valV (srcT c a b d) (.inr (PySem.Str.ofString "cells")) = some (.ref c) := rfl
theorem srcT_put (c : Addr) (a b d x : Int) (k : SK) : putK (srcT c a b d) (.inr k.key) (.int x) = (match k with
    | .left => srcT c x b d
    | .mixed => srcT c a x d
    | .turn => srcT c a b x) := by
  cases k <;> rfl
def srcI (i : Nat) (k : SK) : F1 := fun ρ => match ρ[i]? with
  | some (some (.src _ a b c)) => some (.fr (.int (k.get a b c)))
  | _ => none
def srcC (i : Nat) : F1 := fun ρ => match ρ[i]? with
  | some (some (.src l _ _ _)) => some (.lst (l.map .int))
  | _ => none
def fSrcSet (i : Nat) (k : SK) (f : F1) : FS := fun ρ => match ρ[i]? with
  | some (some (.src l a b c)) => (f ρ).bind fun o => (asI o).bind fun x => some (.nx (ρ.set i (some (k.put x l a b c))))
  | _ => none
def lastI : List Int → Option (List Int × Int)
  | [] => none
  | [x] => some ([], x)
  | x :: y :: r => (lastI (y :: r)).bind fun p => some (x :: p.1, p.2)
def fSrcPop (i : Nat) : FS := fun ρ => match ρ[i]? with
  | some (some (.src l a b c)) => (lastI l).bind fun p => some (.nx (ρ.set i (some (.src p.1 p.2 b c))))
  | _ => none
theorem lastI_eq : ∀ {l m : List Int} {x : Int}, lastI l = some (m, x) → l = m ++ [x]
  | [], _, _, h => by cases h
  | [y], _, _, h => by cases h; rfl
  | y :: z :: r, m, x, h => by
    obtain ⟨p, hp, h⟩ := bind_some (show ((lastI (z :: r)).bind fun p => some (y :: p.1, p.2)) = some (m, x) from h)
    cases h
    rw [lastI_eq hp]
    rfl
section
variable {X : Cx} {B : List Nat} {pos npos kpos ipos : Pos} {x : Str} {j : Nat} {e : Expr} {f : F1}
theorem src_of {K : PySem.W.Frag} {Z : Zs} {H : Hp} {v : V} {l : List Int} {a b d : Int} {g : List Addr} (r : RepO K Z H v (.src l a b d) g) : ∃ q c, v = .ref q ∧ g = [q, c] ∧ H q = some (.dK (srcT c a b d)) ∧ H c = some (.lst (l.map V.int)) := by
  cases r with
  | src h1 h2 => exact ⟨_, _, rfl, rfl, h1, h2⟩
theorem srcT_dget {H : Hp} {q c : Addr} {a b d : Int} (h : H q = some (.dK (srcT c a b d))) (k : SK) : DGet H q (.str k.key) (some (.int (k.get a b d))) := by
  rw [← srcT_get c a b d k]
  exact DGet.k (k := .inr k.key) h
theorem srcT_dgetC {H : Hp} {q c : Addr} {a b d : Int} (h : H q = some (.dK (srcT c a b d))) : DGet H q (.str (PySem.Str.ofString "cells")) (some (.ref c)) := by
  rw [← srcT_cells c a b d]
  exact DGet.k (k := .inr (PySem.Str.ofString "cells")) h
theorem d_srcI (i : Nat) (k : SK) {kc} (hu : X.A.units + 64 < cLine) (hN : X.N[i]? = some x := by rfl) (hv : Vis X.env.scope x := by first | exact Or.inl rfl | exact Or.inr (Or.inl rfl) | exact Or.inr (Or.inr rfl)) (hd : (x == ("__debug__" : Str)) = false := by decide)
    (hcd : (x == ("__classdict__" : Str)) = false := by decide) (hs : NoSl (.Constant (.str k.key) kc kpos) := by intro _ _; rfl) : DP X (.Subscript (.Name x npos) (.Constant (.str k.key) kc kpos) pos) (srcI i k) := PE.imp (pe_dget (by omega) (pe_var hN hv hd hcd) pe_str hs) fun σ H Q h => by
  obtain ⟨Z, ρ, fp, o, S, e, kk⟩ := h
  unfold srcI at e
  split at e
  · rename_i el
    cases e
    obtain ⟨v, g, h1, h2, _⟩ := S.er.get el
    obtain ⟨q, c, rfl, rfl, h3, h4⟩ := src_of h2
    exact ⟨.ref q, h1, q, _, rfl, srcT_dget h3 k, kk Z H _ [] (.fr (.int _)) .nil .refl⟩
  · cases e
theorem r_srcC (i : Nat) {kc} (hu : X.A.units + 64 < cLine) (hN : X.N[i]? = some x := by rfl) (hv : Vis X.env.scope x := by first | exact Or.inl rfl | exact Or.inr (Or.inl rfl) | exact Or.inr (Or.inr rfl)) (hd : (x == ("__debug__" : Str)) = false := by decide)
    (hcd : (x == ("__classdict__" : Str)) = false := by decide) (hs : NoSl (.Constant (.str (PySem.Str.ofString "cells")) kc kpos) := by intro _ _; rfl) : PR X (.Subscript (.Name x npos) (.Constant (.str (PySem.Str.ofString "cells")) kc kpos) pos) (srcC i) := PE.imp (pe_dget (by omega) (pe_var hN hv hd hcd) pe_str hs) fun σ H Q h => by
  obtain ⟨Z, ρ, fp, o, S, e, kk⟩ := h
  unfold srcC at e
  split at e
  · rename_i el
    cases e
    obtain ⟨v, g, h1, h2, _⟩ := S.er.get el
    obtain ⟨q, c, rfl, rfl, h3, h4⟩ := src_of h2
    exact ⟨.ref q, h1, q, _, rfl, srcT_dgetC h3, kk Z H _ [c] (.lst h4 (scr_ints _)) .refl⟩
  · cases e
theorem put_src {Hq : Hp} {K : PySem.W.Frag} {q c : Addr} {l : List Int} {a b d y : Int} {Z : Zs} (k : SK) (h3 : Hq q = some (.dK (srcT c a b d))) (h4 : Hq c = some (.lst (l.map V.int))) : RepO K Z (upd Hq q (.dK (putK (srcT c a b d) (.inr k.key) (.int y)))) (.ref q) (k.put y l a b d) [q, c] := by
  have ne : c ≠ q := ne_of h4 h3 (fun z => nomatch z)
  rw [srcT_put]
  cases k <;> exact .src upd_same (by rw [upd_ne ne]; exact h4)
theorem s_srcSet (i : Nat) (k : SK) {kc} (hu : X.A.units + 64 < cLine) (he : DP X e f) (hN : X.N[i]? = some x := by rfl) (hv : Vis X.env.scope x := by first | exact Or.inl rfl | exact Or.inr (Or.inl rfl) | exact Or.inr (Or.inr rfl)) (hd : (x == ("__debug__" : Str)) = false := by decide)
    (hcd : (x == ("__classdict__" : Str)) = false := by decide) (hsw : swapsWith e (some (.Subscript (.Name x npos) (.Constant (.str k.key) kc kpos) ipos)) pos.line X.env = pure false := by rfl) :
    DS X B (.Assign [.Subscript (.Name x npos) (.Constant (.str k.key) kc kpos) ipos] e pos) (fSrcSet i k f) := PS.imp (ps_dput (by omega) (pe_var hN hv hd hcd) pe_str he hsw) fun D σ H h => by
  obtain ⟨Z, ρ, fp, r, S, e, kk⟩ := h
  unfold fSrcSet at e
  split at e
  · rename_i l a b d el
    obtain ⟨o, eo, e⟩ := bind_some e
    obtain ⟨y, ey, e⟩ := bind_some e
    cases e
    refine ⟨Z, ρ, fp, o, S, eo, fun Z1 H1 v1 g1 r1 o1 a1 => ?_⟩
    have a1' : Fr H [] Z H1 [] Z1 := a1.less fun _ m => (nomatch m)
    have S1 := S.still a1'
    obtain ⟨v, g, h1, h2, ow, wr⟩ := S1.write el
    obtain ⟨q, c, rfl, rfl, h3, h4⟩ := src_of h2
    rw [asI_rep r1 ey]
    refine ⟨.ref q, h1, q, _, rfl, DPut.k (k := .inr k.key) h3 (show 4 < sizeLine by decide), ?_⟩
    obtain ⟨fp', S3, _, f3⟩ := wr Z1 _ (k.put y l a b d) [q, c] [] (Fr.upd1 ⟨_, h3⟩ List.mem_cons_self) (put_src k h3 h4) (ow.upd1 trivial)
    exact kk _ _ σ fp' S3 ((tail_fr a1').trans f3) .rfl
  · cases e
/-- x['left'] = x['cells'].pop() -/
theorem pop_src {K : PySem.W.Frag} {σ : L2.St} {ρ : Env} {fp : List Addr} {Z : Zs} {H : Hp} {i : Nat} {l m : List Int} {y a b d : Int} {q c : Addr} (S : Stt K Z H σ ρ fp) (el : ρ[i]? = some (some (.src l a b d))) (hq : σ[i]? = some (some (.ref q))) (hc : H q = some (.dK (srcT c a b d))) (e : lastI l = some (m, y)) :
    ∃ fp', Stt K Z (upd (upd H c (.lst (m.map V.int))) q (.dK (putK (srcT c a b d) (.inr SK.left.key) (.int y)))) σ (ρ.set i (some (.src m y b d))) fp' ∧ Fr H fp Z (upd (upd H c (.lst (m.map V.int))) q (.dK (putK (srcT c a b d) (.inr SK.left.key) (.int y)))) fp' Z := by
  obtain ⟨v, g, h1, h2, ow, wr⟩ := S.write el
  rw [hq] at h1
  cases h1
  obtain ⟨q', c', e1, rfl, h3, h4⟩ := src_of h2
  cases e1
  have ec : c' = c := by
    rw [hc] at h3
    have z := Option.some.inj h3
    injection z with z
    have z := congrArg (fun t => valV t kCells) z
    have z : some (V.ref c) = some (V.ref c') := z
    injection z with z
    injection z with z
    exact z.symm
  subst ec
  have ne : c' ≠ q := ne_of h4 h3 (fun z => nomatch z)
  have u1 : Fr H [q, c'] Z (upd H c' (.lst (m.map V.int))) [q, c'] Z := Fr.upd1 ⟨_, h4⟩ (by simp)
  have h5 : upd H c' (.lst (m.map V.int)) q = some (.dK (srcT c' a b d)) := by rw [upd_ne (Ne.symm ne)]; exact h3
  have u2 := u1.trans (Fr.upd1 (o := .dK (putK (srcT c' a b d) (.inr SK.left.key) (.int y))) ⟨_, h5⟩ (show q ∈ [q, c'] by simp))
  obtain ⟨fp', S3, _, f3⟩ := wr Z _ (SK.left.put y m a b d) [q, c'] [] u2 (put_src .left h5 upd_same) ((ow.upd1 (a := c') (o := .lst (m.map V.int)) trivial).upd1 trivial)
  exact ⟨fp', S3, f3⟩
theorem map_last {l m : List Int} {y : Int} (e : lastI l = some (m, y)) : (l.map V.int)[(l.map V.int).length - 1]? = some (V.int y) ∧ (l.map V.int).dropLast = m.map V.int := by
  rw [lastI_eq e, List.map_append]
  constructor
  · rw [List.length_append]
    simp
  · simp
variable {p1 p2 p3 p4 p5 p6 p7 : Pos} {k1 k2 : Nat}
theorem s_srcPop (i : Nat) {kc kc2} (hu : X.A.units + 64 < cLine) (hN : X.N[i]? = some x := by rfl) (hv : Vis X.env.scope x := by first | exact Or.inl rfl | exact Or.inr (Or.inl rfl) | exact Or.inr (Or.inr rfl)) (hd : (x == ("__debug__" : Str)) = false := by decide)
    (hcd : (x == ("__classdict__" : Str)) = false := by decide) (hs : NoSl (.Constant (.str (PySem.Str.ofString "cells")) kc2 p2) := by intro _ _; rfl)
    (hbase : attributeBase (.Subscript (.Name x p1) (.Constant (.str (PySem.Str.ofString "cells")) kc2 p2) p3) "pop" X.env (eval (.Subscript (.Name x p1) (.Constant (.str (PySem.Str.ofString "cells")) kc2 p2) p3) X.env) = eval (.Subscript (.Name x p1) (.Constant (.str (PySem.Str.ofString "cells")) kc2 p2) p3) X.env := by rfl) (hln : (p4.endLine == p5.line) = true := by rfl)
    (hsw : swapsWith (.Call (.Attribute (.Subscript (.Name x p1) (.Constant (.str (PySem.Str.ofString "cells")) kc2 p2) p3) "pop" p4) [] [] p5) (some (.Subscript (.Name x npos) (.Constant (.str (PySem.Str.ofString "left")) kc kpos) ipos)) pos.line X.env = pure false := by rfl) :
    DS X B (.Assign [.Subscript (.Name x npos) (.Constant (.str (PySem.Str.ofString "left")) kc kpos) ipos] (.Call (.Attribute (.Subscript (.Name x p1) (.Constant (.str (PySem.Str.ofString "cells")) kc2 p2) p3) "pop" p4) [] [] p5) pos) (fSrcPop i) :=
  PS.imp (ps_dput (by omega) (pe_var hN hv hd hcd) pe_str (pe_bm0 PySem.F.plainAttrs_list PySem.F.slot_list_pop PySem.F.type_list_pop mt_pop (pe_dget (by omega) (pe_var hN hv hd hcd) pe_str hs) (hbase := hbase) (hline := hln)) hsw) fun D σ H h => by
  obtain ⟨Z, ρ, fp, r, S, e, kk⟩ := h
  unfold fSrcPop at e
  split at e
  · rename_i l a b d el
    obtain ⟨⟨m, y⟩, em, e⟩ := bind_some e
    cases e
    obtain ⟨v, g, h1, h2, _⟩ := S.er.get el
    obtain ⟨q, c, rfl, rfl, h3, h4⟩ := src_of h2
    obtain ⟨l1, l2⟩ := map_last em
    refine ⟨.ref q, h1, q, .ref c, rfl, srcT_dgetC h3, .inl ⟨rfl, _, .of h4⟩, c, _, .int y, rfl, rfl, h4, l1, .ref q, h1, q, ?_⟩
    rw [l2]
    have ne : c ≠ q := ne_of h4 h3 (fun z => nomatch z)
    have h5 : upd H c (.lst (m.map V.int)) q = some (.dK (srcT c a b d)) := by rw [upd_ne (Ne.symm ne)]; exact h3
    obtain ⟨fp', S3, f3⟩ := pop_src S el h1 h3 em
    exact ⟨_, rfl, DPut.k (k := .inr SK.left.key) h5 (show 4 < sizeLine by decide), kk _ _ σ fp' S3 f3 .rfl⟩
  · cases e
/-- {'cells': .., 'left': .., 'mixed': .., 'turn': ..} -/
def dSrc (f1 f2 f3 f4 : F1) : F1 := fun ρ => (f1 ρ).bind fun o1 => (f2 ρ).bind fun o2 => (f3 ρ).bind fun o3 => (f4 ρ).bind fun o4 => match o1 with
  | .lst l => (intsOf l).bind fun ns => (asI o2).bind fun a => (asI o3).bind fun b => (asI o4).bind fun d => some (.src ns a b d)
  | _ => none
variable {e1 e2 e3 e4 : Expr} {f1 f2 f3 f4 : F1} {q1 q2 q3 q4 : Pos}
theorem d_src {c1 c2 c3 c4} (h1 : DP X e1 f1) (h2 : DP X e2 f2) (h3 : DP X e3 f3) (h4 : DP X e4 f4) :
    DP X (.Dict [some (.Constant (.str (PySem.Str.ofString "cells")) c1 q1), some (.Constant (.str (PySem.Str.ofString "left")) c2 q2), some (.Constant (.str (PySem.Str.ofString "mixed")) c3 q3), some (.Constant (.str (PySem.Str.ofString "turn")) c4 q4)] [e1, e2, e3, e4] pos) (dSrc f1 f2 f3 f4) :=
  PE.imp (pe_disp (pps_cons pe_str h1 (pps_cons pe_str h2 (pps_cons pe_str h3 (pps_cons pe_str h4 pps_nil)))) rfl rfl (by simp) (show 4 ≤ 15 by decide)) fun σ H Q h => by
  obtain ⟨Z, ρ, fp, o, S, e, kk⟩ := h
  obtain ⟨o1, eo1, e⟩ := bind_some e
  obtain ⟨o2, eo2, e⟩ := bind_some e
  obtain ⟨o3, eo3, e⟩ := bind_some e
  obtain ⟨o4, eo4, e⟩ := bind_some e
  split at e
  · rename_i l
    obtain ⟨ns, en, e⟩ := bind_some e
    obtain ⟨a, ea, e⟩ := bind_some e
    obtain ⟨b, eb, e⟩ := bind_some e
    obtain ⟨d, ed, e⟩ := bind_some e
    cases e
    intro p np
    have a0 : Fr H [] Z (upd H p (.dK [])) [p] Z := upd_fr np Z (fun _ z => z) (fun _ z => .inl z) (fun b m => by simpa using m)
    have S0 := S.still (a0.less fun _ m => (nomatch m) : Fr H [] Z (upd H p (.dK [])) [] Z)
    have nz : ¬ Z p := fun z => by
      obtain ⟨o, q⟩ := S.za p z
      rw [np] at q; cases q
    refine ⟨Z, ρ, fp, _, S0, eo1, fun Z1 H1 v1 g1 r1 w1 a1 => ?_⟩
    obtain ⟨c, vs, rfl, rfl, h5, t5⟩ := lst_of r1
    have a1' : Fr (upd H p (.dK [])) [] Z H1 [] Z1 := a1.less fun _ m => (nomatch m)
    refine ⟨Z1, ρ, fp, _, S0.still a1', eo2, fun Z2 H2 v2 g2 r2 w2 a2 => ?_⟩
    have a2' : Fr H1 [] Z1 H2 [] Z2 := a2.less fun _ m => (nomatch m)
    refine ⟨Z2, ρ, fp, _, (S0.still a1').still a2', eo3, fun Z3 H3 v3 g3 r3 w3 a3 => ?_⟩
    have a3' : Fr H2 [] Z2 H3 [] Z3 := a3.less fun _ m => (nomatch m)
    refine ⟨Z3, ρ, fp, _, ((S0.still a1').still a2').still a3', eo4, fun Z4 H4 v4 g4 r4 w4 a4 => ?_⟩
    have a4' : Fr H3 [] Z3 H4 [] Z4 := a4.less fun _ m => (nomatch m)
    have a14 := (a2'.trans a3').trans a4'
    have a04 := a1'.trans a14
    have hp4 : H4 p = some (.dK []) := a04.same p _ upd_same (by simp)
    have hc4 : H4 c = some (.lst vs) := a14.same c _ h5 (by simp)
    have ens := ints_rep en t5
    subst ens
    refine ⟨hp4, srcT c a b d, ?_, show 4 ≤ 15 by decide, ?_⟩
    · rw [asI_rep r2 ea, asI_rep r3 eb, asI_rep r4 ed]
      rfl
    · show Q (.ref p) (upd H4 p (.dK (srcT c a b d)))
      have ne : c ≠ p := ne_of hc4 hp4 (fun z => nomatch z)
      have cH : H c = none := by
        cases q : H c with
        | none => rfl
        | some u =>
          have q2 : upd H p (.dK []) c = some u := by rw [upd_ne ne]; exact q
          exact absurd (a1.new c u q2 (by simp)) (by simp)
      have zc : ¬ Z4 c := fun z => by
        rcases a14.znew c _ h5 z with z | z
        · exact w1.nz c (by simp) z
        · cases z
      have zp : ¬ Z4 p := fun z => by
        rcases a04.znew p _ upd_same z with z | z
        · exact nz z
        · cases z
      have fin : Fr H [] Z (upd H4 p (.dK (srcT c a b d))) [p, c] Z4 := by
        have f1 : Fr H [] Z H4 [p] Z4 := a0.trans (tail_fr a04)
        have f2 := f1.trans (Fr.upd1 (o := .dK (srcT c a b d)) ⟨_, hp4⟩ (show p ∈ [p] by simp))
        refine ⟨f2.same, f2.zup, f2.znew, fun b o q m => ?_, f2.zal⟩
        rcases List.mem_cons.mp m with rfl | m
        · rw [np] at q; cases q
        · obtain rfl : b = c := by simpa using m
          rw [cH] at q; cases q
      refine kk Z4 _ (.ref p) [p, c] (.src upd_same (by rw [upd_ne ne]; exact hc4)) ⟨by simp [Ne.symm ne], fun x m => ?_, fun x m => ?_⟩ fin
      · rcases List.mem_cons.mp m with rfl | m
        · exact zp
        · obtain rfl : x = c := by simpa using m
          exact zc
      · rcases List.mem_cons.mp m with rfl | m
        · exact ⟨_, upd_same, trivial⟩
        · obtain rfl : x = c := by simpa using m
          exact ⟨.lst (ns.map V.int), by rw [upd_ne ne]; exact hc4, trivial⟩
  · cases e
end
end DL

namespace DL
open PySem PySem.Spec PyProof.Rows L2

/-! ## the script -/
def iScr (i : Nat) : FD := fun ρ => match ρ[i]? with
  | some (some (.scr l)) => some (l.map .int)
  | _ => none
section
variable {X : Cx} {tg : Expr} {npos : Pos} {x : Str}
theorem iter_scr {K : PySem.W.Frag} {Z : Zs} {H : Hp} {a : Addr} {l : List Int} {g : List Addr} (r : RepO K Z H (.ref a) (.scr l) g) : IterOk K Z H (Itl K a) (l.map .int) := fun i Z2 H2 k za => by
  have h2 : SqL K H2 a (l.map V.int) := by
    cases r with
    | scr h =>
      rcases h with ⟨z, h⟩ | h
      · exact .inl (h.imp (k.zs _ _ z) fun ⟨o, h⟩ => ⟨o, k.zs _ _ z h⟩)
      · exact h H2
  refine ⟨fun d hd => ?_, fun hl => ⟨_, h2, by simpa using hl⟩⟩
  rw [List.getElem?_map] at hd
  obtain ⟨n, hn, rfl⟩ := Option.map_eq_some_iff.mp hd
  have h3 : (l.map V.int)[i]? = some (V.int n) := by rw [List.getElem?_map, hn]; rfl
  refine ⟨⟨_, _, h2, h3⟩, fun x H3 y => ?_⟩
  obtain ⟨rfl, hy⟩ := y
  have e := (hy _ h2).symm.trans h3
  cases e
  exact ⟨Z2, .int n, .refl⟩
theorem scr_sql {K : PySem.W.Frag} {Z : Zs} {H : Hp} {v : V} {l : List Int} {g : List Addr} (r : RepO K Z H v (.scr l) g) : ∃ a, v = .ref a ∧ SqL K H a (l.map V.int) := by
  cases r with
  | scr h =>
    rcases h with ⟨_, h⟩ | h
    · exact ⟨_, rfl, .inl h⟩
    · exact ⟨_, rfl, h H⟩
theorem i_scr (i : Nat) (hN : X.N[i]? = some x := by rfl) (hv : Vis X.env.scope x := by first | exact Or.inl rfl | exact Or.inr (Or.inl rfl) | exact Or.inr (Or.inr rfl)) (hd : (x == ("__debug__" : Str)) = false := by decide)
    (hcd : (x == ("__classdict__" : Str)) = false := by decide) : DI X tg (.Name x npos) (iScr i) := PI.imp (pi_list (pe_var hN hv hd hcd)) fun σ H R q => by
  obtain ⟨Z, ρ, fp, ds, S, e, k⟩ := q
  unfold iScr at e
  split at e
  · rename_i l el
    cases e
    obtain ⟨v, g, h1, h2, _⟩ := S.er.get el
    obtain ⟨a, rfl, h3⟩ := scr_sql h2
    exact ⟨.ref a, h1, a, rfl, ⟨_, h3⟩, k Z H _ (iter_scr h2) .refl⟩
  · cases e
end

/-! ## the module's tables of rows of ints -/
/-- a row of rows of ints, a constant -/
structure KRows (K : PySem.W.Frag) (a : Addr) (rows : List (List Int)) : Prop where
  at_ : ∃ bs : List Addr, (∀ H : Hp, SqT K H a (bs.map V.ref)) ∧ Paired (fun b row => ∀ H : Hp, SqT K H b (row.map V.int)) bs rows
structure KTab (K : PySem.W.Frag) (w : World) (d : Addr) (tab : List (Str × List (List Int))) : Prop where
  dict : ∃ es n, KDict K w d es n
  vals : ∀ q ∈ tab, ∃ a, PySem.W.nsIn K d q.1 = some (some (.ref a)) ∧ KRows K a q.2
def rowD (row : List Int) : PyData := .tuple (row.map .int)
def RC (K : PySem.W.Frag) : Rel1 := fun _ _ v d => ∃ b row, v = .ref b ∧ (∀ H : Hp, SqT K H b (row.map V.int)) ∧ d = rowD row
def tabAt : List (Str × List (List Int)) → Str → Option (List (List Int))
  | [], _ => none
  | q :: r, z => if decide (q.1 = z) then some q.2 else tabAt r z
def iTab (tab : List (Str × List (List Int))) (f : F1) : FD := fun ρ => (f ρ).bind fun o => match o with
  | .fr (.str z) => (tabAt tab z).bind fun rows => some (rows.map rowD)
  | _ => none
section
variable {X : Cx} {tg e : Expr} {f : F1} {npos pos : Pos} {x : Str} {d : Addr} {tab : List (Str × List (List Int))}
theorem tabAt_mem : ∀ {tab : List (Str × List (List Int))} {z : Str} {rows : List (List Int)}, tabAt tab z = some rows → (z, rows) ∈ tab
  | [], _, _, h => by cases h
  | q :: r, z, rows, h => by
    unfold tabAt at h
    by_cases e : q.1 = z
    · rw [decide_eq_true e, if_pos rfl] at h
      cases h
      rw [← e]
      exact List.mem_cons_self
    · rw [decide_eq_false e, if_neg Bool.false_ne_true] at h
      exact List.mem_cons_of_mem _ (tabAt_mem h)
theorem pe_kd {t : TE} {es : Array DictEntry} {n : Nat} (D : KDict X.K X.w d es n) (hg : Gl X x) (hm : X.mg x = some (.ref d)) (hi : PE X e t) (hs : NoSl e) (hd : (x == ("__debug__" : Str)) = false := by decide) :
    PE X (.Subscript (.Name x npos) e pos) (fun σ H Q => t σ H fun y H' => ∃ (z : Str) (u0 : Value) (v0 : V), y = .str z ∧ PySem.W.nsIn X.K d z = some (some u0) ∧ RelV v0 u0 ∧ Q v0 H') := by
  refine ⟨fun pins s σ H Q I h => subD_of PySem.F.slot_dict_getitem.lookup hs (thn ((pe_glob (X := X) (v := .ref d) hg hm rfl hd).run pins s σ H (fun v H1 => v = V.ref d ∧ t σ H1 fun y H' => ∃ (z : Str) (u0 : Value) (v0 : V), y = .str z ∧ PySem.W.nsIn X.K d z = some (some u0) ∧ RelV v0 u0 ∧ Q v0 H') I ⟨rfl, h⟩) fun u s1 h1 => ?_)⟩
  obtain ⟨v, H1, I1, rv, rfl, q⟩ := h1
  cases rv
  refine thn (hi.run pins s1 σ H1 _ I1 q) fun iv s2 h2 => ?_
  obtain ⟨y, H2, I2, ry, z, u0, v0, rfl, e0, r0, q0⟩ := h2
  exact ⟨kd_type D I2, op_item_kd D pins s2 σ H2 (.ref d) (.str z) (.ref d) iv Q I2 rfl ry ⟨z, u0, v0, rfl, rfl, e0, r0, q0⟩⟩
theorem paired_at {α β : Type} {F : α → β → Prop} : ∀ {l : List α} {m : List β} {i : Nat} {y : β}, Paired F l m → m[i]? = some y → ∃ x, l[i]? = some x ∧ F x y
  | _, _, _, _, .nil, e => by simp at e
  | _, _, 0, _, .cons h _, e => by simp at e; subst e; exact ⟨_, rfl, h⟩
  | _, _, i + 1, _, .cons _ t, e => by
    obtain ⟨x, h1, h2⟩ := paired_at (i := i) t (by simpa using e)
    exact ⟨x, by simpa using h1, h2⟩
theorem iter_rows {K : PySem.W.Frag} {Z : Zs} {H : Hp} {a : Addr} {bs : List Addr} {rows : List (List Int)} (ha : ∀ H : Hp, SqT K H a (bs.map V.ref)) (hp : Paired (fun b row => ∀ H : Hp, SqT K H b (row.map V.int)) bs rows) : IterR (RC K) Z H (Itt K a) (rows.map rowD) := fun i Z2 H2 k za => by
  refine ⟨fun d hd => ?_, fun hl => ⟨_, ha H2, by rw [List.length_map, Paired.length hp]; simpa using hl⟩⟩
  rw [List.getElem?_map] at hd
  obtain ⟨row, hr, rfl⟩ := Option.map_eq_some_iff.mp hd
  obtain ⟨b, hb, hs⟩ := paired_at hp hr
  have h3 : (bs.map V.ref)[i]? = some (V.ref b) := by rw [List.getElem?_map, hb]; rfl
  refine ⟨⟨_, _, ha H2, h3⟩, fun x H3 y => ?_⟩
  obtain ⟨rfl, hy⟩ := y
  have e := (hy _ (ha H3)).symm.trans h3
  cases e
  exact ⟨Z2, ⟨b, row, rfl, hs, rfl⟩, .refl⟩
/-- for .. in TAB[e] -/
theorem i_tab (T : KTab X.K X.w d tab) (hg : Gl X x) (hm : X.mg x = some (.ref d)) (he : DP X e f) (hs : NoSl e := by intro _ _; rfl) (hd : (x == ("__debug__" : Str)) = false := by decide) :
    PI X tg (.Subscript (.Name x npos) e pos) (tIR X.K (RC X.K) (iTab tab f)) := by
  obtain ⟨es, n, D⟩ := T.dict
  refine PI.imp (pi_tup (pe_kd D hg hm he hs hd)) fun σ H R q => ?_
  obtain ⟨Z, ρ, fp, ds, S, e, k⟩ := q
  obtain ⟨o, eo, e⟩ := bind_some e
  split at e
  · rename_i z
    obtain ⟨rows, er, e⟩ := bind_some e
    cases e
    obtain ⟨a, h1, h2⟩ := T.vals _ (tabAt_mem er)
    obtain ⟨bs, ha, hp⟩ := h2.at_
    refine ⟨Z, ρ, fp, _, S, eo, fun Z1 H1 v1 g1 r1 o1 a1 => ?_⟩
    obtain ⟨d1, _⟩ := asD_rep r1 rfl
    cases d1
    exact ⟨z, .ref a, .ref a, rfl, h1, rfl, a, rfl, ⟨_, ha H1⟩, k Z1 H1 _ (iter_rows ha hp) (a1.less fun _ m => (nomatch m))⟩
  · cases e
theorem g_tupC {B : List Nat} {es : List Expr} {fs : FTs} {k n : Nat} (hc : X.calm = true) (h : DGs X B es fs) (hn : (assignEach es X.env).length = n := by rfl) (hst : (assignEach es X.env).findIdx? (·.1) = none := by rfl) : PG X (.Tuple es k pos) (tGR X.K (RC X.K) B (gT n fs)) := PG.imp (pg_tup hc h hn hst) fun v σ H Q h => by
  obtain ⟨Z, ρ, fp, d, ρ', S, dz, e, kk⟩ := h
  obtain ⟨b, row, rfl, hs, rfl⟩ := dz
  have e : (if Nat.beq (row.map PyData.int).length n = true then fs (row.map .int) ρ else none) = some ρ' := e
  split at e
  · rename_i c
    have dzs : DpZs X.K Z H (row.map V.int) (row.map .int) := scr_ints row
    exact ⟨b, _, rfl, hs H, by rw [dzs.length]; exact Nat.eq_of_beq_eq_true c, Z, ρ, fp, _, ρ', S, dzs, e, kk⟩
  · cases e
end

/-! ## what the head tells of a table -/
def rowB (K : PySem.W.Frag) (u : Value) (row : List Int) : Bool := match u with
  | .ref b => (match K.lookup b with
    | some ⟨.type c, none, .seq its _, _⟩ => decide (c = "tuple") && (Nat.ble its.size 1000 && He.relAll (row.map V.int) its.toList)
    | _ => false)
  | _ => false
def allRows (K : PySem.W.Frag) : List Value → List (List Int) → Bool
  | [], [] => true
  | u :: us, r :: rs => rowB K u r && allRows K us rs
  | _, _ => false
def tabB (K : PySem.W.Frag) (d : Addr) (q : Str × List (List Int)) : Bool := match PySem.W.nsIn K d q.1 with
  | some (some (.ref a)) => (match K.lookup a with
    | some ⟨.type c, none, .seq its _, _⟩ => decide (c = "tuple") && (Nat.ble its.size 1000 && allRows K its.toList q.2)
    | _ => false)
  | _ => false
theorem rowB_ok {K : PySem.W.Frag} {u : Value} {row : List Int} (h : rowB K u row = true) : ∃ b, u = .ref b ∧ ∀ H : Hp, SqT K H b (row.map V.int) := by
  unfold rowB at h
  split at h
  · rename_i b
    split at h
    · rename_i c its n sl e
      obtain ⟨h1, h⟩ := Bool.and_eq_true_iff.mp h
      obtain ⟨h2, h3⟩ := Bool.and_eq_true_iff.mp h
      have e1 := of_decide_eq_true h1
      have e2 : its.size ≤ sizeLine := by
        rw [sizeLine_eq]
        have := Nat.le_of_ble_eq_true h2
        omega
      exact ⟨b, rfl, fun H => .inr ⟨_, its, n, e, congrArg Value.type e1, rfl, e2, He.relAll_ok h3⟩⟩
    · cases h
  · cases h
theorem allRows_ok {K : PySem.W.Frag} : ∀ {us : List Value} {rows : List (List Int)}, allRows K us rows = true → ∃ bs : List Addr, us = bs.map Value.ref ∧ Paired (fun b row => ∀ H : Hp, SqT K H b (row.map V.int)) bs rows
  | [], [], _ => ⟨[], rfl, .nil⟩
  | [], _ :: _, h => by cases h
  | _ :: _, [], h => by cases h
  | u :: us, r :: rs, h => by
    obtain ⟨h1, h2⟩ := Bool.and_eq_true_iff.mp (show (rowB K u r && allRows K us rs) = true from h)
    obtain ⟨b, rfl, h3⟩ := rowB_ok h1
    obtain ⟨bs, rfl, h4⟩ := allRows_ok h2
    exact ⟨b :: bs, rfl, .cons h3 h4⟩
theorem tabB_ok {K : PySem.W.Frag} {d : Addr} {q : Str × List (List Int)} (h : tabB K d q = true) : ∃ a, PySem.W.nsIn K d q.1 = some (some (.ref a)) ∧ KRows K a q.2 := by
  unfold tabB at h
  split at h
  · rename_i a ea
    split at h
    · rename_i c its n sl e
      obtain ⟨h1, h⟩ := Bool.and_eq_true_iff.mp h
      obtain ⟨h2, h3⟩ := Bool.and_eq_true_iff.mp h
      have e1 := of_decide_eq_true h1
      have e2 : its.size ≤ sizeLine := by
        rw [sizeLine_eq]
        have := Nat.le_of_ble_eq_true h2
        omega
      obtain ⟨bs, e3, h4⟩ := allRows_ok h3
      refine ⟨a, ea, ⟨bs, fun H => .inr ⟨_, its, n, e, congrArg Value.type e1, rfl, e2, ?_⟩, h4⟩⟩
      rw [e3]
      exact vals_refs bs
    · cases h
  · cases h
def tabsOk (x : Str) (tab : List (Str × List (List Int))) (K : PySem.W.Frag) : Bool := tab.all (tabB K (He.ga K x))
theorem tabsOk_ok {x : Str} {tab : List (Str × List (List Int))} {K : PySem.W.Frag} {w : World} (h : tabsOk x tab K = true) (D : ∃ es n, KDict K w (He.ga K x) es n) : KTab K w (He.ga K x) tab :=
  ⟨D, fun q m => tabB_ok (List.all_eq_true.mp h q m)⟩
end DL

namespace DL
open PySem PySem.Spec PyProof.Rows L2

/-! ## defs by name -/
structure Fok (P : Program) (w : World) (K : PySem.W.Frag) (mg : Str → Option Value) (base : Heap) (k : Nat) (x : Str) (ps : List Str) (sp : Sp) : Prop where
  ex : ∃ fd, FnOk P w K mg base CX0 k (He.ga K x) fd ps sp ∧ Binds K fd ps []
  glo : mg x = some (.ref (He.ga K x))
  kp : PySem.W.keepIn K (.ref (He.ga K x)) = true
section
variable {X : Cx} {k j : Nat} {ps : List Str} {x y : Str} {p p0 pos : Pos} {e : Expr} {es : List Expr} {fl : FD} {fe : FDE} {n : Nat} {F : Fn} {G : FnB}
theorem d_callF (F' : Fok X.prog X.w X.K X.mg X.base k x ps (spP X.K n F)) (hr : Room j X.A) (hj : k ≤ j) (ha : DA X (e :: es) fl) (hg : Gl X x := by rfl)
    (hdb : (x == ("__debug__" : Str)) = false := by decide) (he : starEach (e :: es) X.env = (false, eval e X.env) :: starEach es X.env := by rfl) (hpl : (backTo pos (starEach es X.env)).any (·.1) = false := by rfl) :
    DP X (.Call (.Name x p) (e :: es) [] pos) (dCall n F fl) := by
  obtain ⟨fd, h1, h2⟩ := F'.ex
  exact d_call h1 (hr.mono hj) hg F'.glo F'.kp h2 ha hdb he hpl
theorem e_callF (F' : Fok X.prog X.w X.K X.mg X.base k x ps (spP X.K n F)) (hr : Room j X.A) (hj : k ≤ j) (ha : EA X (e :: es) fe) (hg : Gl X x := by rfl)
    (hdb : (x == ("__debug__" : Str)) = false := by decide) (he : starEach (e :: es) X.env = (false, eval e X.env) :: starEach es X.env := by rfl) (hpl : (backTo pos (starEach es X.env)).any (·.1) = false := by rfl) :
    DE X (.Call (.Name x p) (e :: es) [] pos) (eCall n F fe) := by
  obtain ⟨fd, h1, h2⟩ := F'.ex
  exact e_call h1 (hr.mono hj) hg F'.glo F'.kp h2 ha hdb he hpl
theorem e_lentF (i : Nat) (F' : Fok X.prog X.w X.K X.mg X.base k x ps (spB X.K n G)) (hr : Room j X.A) (hj : k ≤ j) (ha : EA X es fe) (hg : Gl X x := by rfl)
    (hN : X.N[i]? = some y := by rfl) (hv : Vis X.env.scope y := by first | exact Or.inl rfl | exact Or.inr (Or.inl rfl) | exact Or.inr (Or.inr rfl)) (hd : (y == ("__debug__" : Str)) = false := by decide)
    (hcd : (y == ("__classdict__" : Str)) = false := by decide) (hdb : (x == ("__debug__" : Str)) = false := by decide) (he : starEach (.Name y p0 :: es) X.env = (false, eval (.Name y p0) X.env) :: starEach es X.env := by rfl) (hpl : (backTo pos (starEach es X.env)).any (·.1) = false := by rfl) :
    DE X (.Call (.Name x p) (.Name y p0 :: es) [] pos) (eCallB i n G fe) := by
  obtain ⟨fd, h1, h2⟩ := F'.ex
  exact e_lent i h1 (hr.mono hj) hg F'.glo F'.kp h2 ha hN hv hd hcd hdb he hpl
end
/-- the law's promise -/
def spLaw (K : PySem.W.Frag) : Sp := fun vs H Q _ => ∃ (a : Addr) (ns : List Int), vs = [.ref a] ∧ SqL K H a (ns.map V.int) ∧ ns.length ≤ 63 ∧ ∀ H', Q (.bl true) H'
theorem law_of {P : Program} {w : World} {K : PySem.W.Frag} {mg : Str → Option Value} {base : Heap} {k : Nat} {f : Addr} {fd : FuncData} {ps : List Str} {G : FnB} (F : FnOk P w K mg base CX0 k f fd ps (spB K 0 G)) (h : ∀ ns : List Int, ns.length ≤ 63 → ∃ o', G (.scr ns) [] = some (.fr (.bool true), o')) : FnOk P w K mg base CX0 k f fd ps (spLaw K) :=
  F.imp fun vs H Q E ⟨a, ns, e, s, hl, q⟩ => by
    subst e
    obtain ⟨o', ho⟩ := h ns hl
    refine ⟨.ref a, [], fun b => b = a ∧ ∃ o, H b = some o, .scr ns, [], [], .fr (.bool true), o', rfl, fun b z => z.2, ?_, .nil, .nil, rfl, ho, fun Z' H' v g' gr r _ _ _ => ?_⟩
    · rcases s with s | s
      · refine .scr (.inl ⟨⟨rfl, ?_⟩, s⟩)
        rcases s with s | ⟨o, s⟩
        · exact ⟨_, s⟩
        · exact ⟨_, s⟩
      · exact .scr (.inr fun _ => .inr s)
    · rw [asB_rep r rfl]
      exact q H'
end DL

namespace DL
open PySem PySem.Spec PyProof.Rows L2
/-- turns enough for the source's cells -/
def fuelS (i : Nat) : Env → Nat := fun ρ => match ρ[i]? with
  | some (some (.src l _ _ _)) => l.length + 1
  | _ => 0
def isT : Option Ob → Bool
  | some (.fr (.bool true)) => true
  | _ => false
theorem isT_eq {o : Option Ob} (h : isT o = true) : o = some (.fr (.bool true)) := by
  unfold isT at h
  split at h
  · rfl
  · cases h
/-- a slot's object is never to be written again -/
def fFz (i : Nat) : FS := fun ρ => match ρ[i]? with
  | some (some o) => (fz o).bind fun d => some (.nx (ρ.set i (some (.fr d))))
  | _ => none
theorem fFz_eq (i : Nat) (f : FS) : fSeq (fFz i) f = fFrz i f := by
  funext ρ
  unfold fSeq fFz fFrz
  cases ρ[i]? with
  | none => rfl
  | some x =>
    cases x with
    | none => rfl
    | some o =>
      show ((fz o).bind _).bind _ = (fz o).bind _
      cases fz o <;> rfl
theorem s_fz {X : Cx} {B : List Nat} {sts : List Stmt} {f : FS} (i : Nat) (h : DSs X B sts f) : DSs X B sts (fSeq (fFz i) f) := by
  rw [fFz_eq]
  exact s_frz i h
/-- a list of one's own, to be grown: kept from its end -/
def fAcc (i : Nat) : FS := fun ρ => match ρ[i]? with
  | some (some (.lst l)) => some (.nx (ρ.set i (some (.acc l.length l.reverse))))
  | _ => none
theorem s_acc {X : Cx} {B : List Nat} {sts : List Stmt} {f : FS} (i : Nat) (h : DSs X B sts f) : DSs X B sts (fSeq (fAcc i) f) := PSs.imp h fun D σ H h => by
  obtain ⟨Z, ρ, fp, r, S, e, k⟩ := h
  obtain ⟨r1, e1, e⟩ := bind_some e
  unfold fAcc at e1
  split at e1
  · rename_i l el
    cases e1
    obtain ⟨v, g, h1, h2, ow, wr⟩ := S.write el
    obtain ⟨a, vs, rfl, rfl, h3, h4⟩ := lst_of h2
    obtain ⟨fp', S', _, f'⟩ := wr Z H (.acc l.length l.reverse) [a] [] .refl (.acc h3 (by rw [List.reverse_reverse]; exact h4) (by simp)) ow
    exact ⟨Z, _, fp', r, S', e, k.on f' .rfl⟩
  · cases e1
theorem fSeq_assoc (f g h : FS) : fSeq (fSeq f g) h = fSeq f (fSeq g h) := by
  funext ρ
  unfold fSeq
  cases f ρ with
  | none => rfl
  | some r => cases r <;> rfl
theorem fSeq_nil (f : FS) : fSeq f fNx = f := by
  funext ρ
  unfold fSeq fNx
  cases f ρ with
  | none => rfl
  | some r => cases r <;> rfl
end DL

namespace DL
open PySem PySem.Spec PyProof.Rows L2

/-! ## picks -/
/-- what a pick does to the source: some number below many, the source behind it -/
def Pk (F : FnB) : Prop := ∀ (l : List Int) (a b c many : Int), 1 ≤ many → many < 1073741824 → ∃ v l' a' b' c', F (.src l a b c) [.int many] = some (.fr (.int v), .src l' a' b' c') ∧ 0 ≤ v ∧ v < many
theorem lastI_some : ∀ {l : List Int}, l ≠ [] → ∃ m y, lastI l = some (m, y) ∧ m.length + 1 = l.length
  | [], h => absurd rfl h
  | [x], _ => ⟨[], x, rfl, rfl⟩
  | x :: y :: r, _ => by
    obtain ⟨m, z, e, hl⟩ := lastI_some (l := y :: r) (by simp)
    exact ⟨x :: m, z, by show ((lastI (y :: r)).bind fun p => some (x :: p.1, p.2)) = _; rw [e]; rfl, by simpa using hl⟩
/-- the loop that fills 'left' -/
def pkC : FB := bAnd (bO (o2 ltA (srcI 0 .left) (kO (.int 2)))) (bO (o2 gtA (oL (g1 lenA) (lCons (srcC 0) lNil)) (kO (.int 0))))
theorem pk_loop : ∀ (k : Nat) (l : List Int) (a b c : Int) (t : Env), l.length + 1 ≤ k → ∃ l' a', whL pkC (fSrcPop 0) k (some (.src l a b c) :: t) = some (.nx (some (.src l' a' b c) :: t))
  | 0, l, a, b, c, t, h => by omega
  | k + 1, l, a, b, c, t, h => by
    have c1 : pkC (some (.src l a b c) :: t) = if decide (a < 2) = true then some (decide ((0 : Int) < (((l.map PyData.int).length : Nat) : Int))) else some false := rfl
    by_cases h1 : a < 2
    · rw [decide_eq_true h1, if_pos rfl] at c1
      by_cases h2 : l = []
      · subst h2
        refine ⟨[], a, ?_⟩
        show ((pkC (some (.src [] a b c) :: t)).bind fun b' => _) = _
        rw [c1]
        rfl
      · obtain ⟨m, y, e, hl⟩ := lastI_some h2
        have h3 : (0 : Int) < (((l.map PyData.int).length : Nat) : Int) := by rw [List.length_map]; omega
        rw [decide_eq_true h3] at c1
        obtain ⟨l', a', ih⟩ := pk_loop k m y b c t (by omega)
        refine ⟨l', a', ?_⟩
        show ((pkC (some (.src l a b c) :: t)).bind fun b' => if b' = true then (fSrcPop 0 (some (.src l a b c) :: t)).bind fun r => match r with
          | .nx ρ2 => whL pkC (fSrcPop 0) k ρ2
          | .ct ρ2 => whL pkC (fSrcPop 0) k ρ2
          | .bk ρ2 => some (.nx ρ2)
          | .rt o ρ2 => some (.rt o ρ2)
          else some (.nx (some (.src l a b c) :: t))) = _
        have e2 : fSrcPop 0 (some (.src l a b c) :: t) = some (.nx (some (.src m y b c) :: t)) := by
          show ((lastI l).bind fun p => some (Out.nx ((some (Ob.src l a b c) :: t).set 0 (some (.src p.1 p.2 b c))))) = _
          rw [e]; rfl
        rw [c1, Option.bind_some, if_pos rfl, e2]
        exact ih
    · rw [decide_eq_false h1, if_neg Bool.false_ne_true] at c1
      refine ⟨l, a, ?_⟩
      show ((pkC (some (.src l a b c) :: t)).bind fun b' => _) = _
      rw [c1]
      rfl
def pick3 (A B C D E : Int) : FS := (fSeq (fIf (bO (o2 ltA (rdV 1) (kO (.int 2)))) (fRet (kO (.int 0))) fNx) (fSeq (fWh (fuelS 0) pkC (fSrcPop 0)) (fSeq (fSet 2 (srcI 0 .left)) (fSeq (fIf (bO (o2 gtA (rdV 2) (kO (.int 1)))) (fSeq (fSrcSet 0 .left (o2 divI (rdV 2) (rdV 1))) (fRet (o2 modI (oL (g1 intO) (lCons (rdV 2) lNil)) (rdV 1)))) fNx) (fSeq (fSrcSet 0 .turn (o2 addO (srcI 0 .turn) (kO (.int 1)))) (fSeq (fSet 3 (o2 modI (oL (g1 intO) (lCons (o2 addO (srcI 0 .mixed) (o2 mulO (srcI 0 .turn) (kO (.int A)))) lNil)) (kO (.int B)))) (fSeq (fSet 3 (o2 modI (oL (g1 intO) (lCons (o2 addO (o2 mulO (rdV 3) (rdV 3)) (o2 mulO (srcI 0 .turn) (kO (.int C)))) lNil)) (kO (.int D)))) (fSeq (fSrcSet 0 .mixed (frV 3)) (fRet (o2 modI (oL (g1 intO) (lCons (o2 divI (rdV 3) (kO (.int E))) lNil)) (rdV 1)))))))))))
theorem fSeq_nx {f g : FS} {ρ ρ' : Env} (h : f ρ = some (.nx ρ')) : fSeq f g ρ = g ρ' := by unfold fSeq; rw [h]; rfl
theorem fSeq_rt {f g : FS} {ρ ρ' : Env} {o : Ob} (h : f ρ = some (.rt o ρ')) : fSeq f g ρ = some (.rt o ρ') := by unfold fSeq; rw [h]; rfl
theorem fIf_t {c : FB} {f g : FS} {ρ : Env} (h : c ρ = some true) : fIf c f g ρ = f ρ := by unfold fIf; rw [h]; rfl
theorem fIf_f {c : FB} {f g : FS} {ρ : Env} (h : c ρ = some false) : fIf c f g ρ = g ρ := by unfold fIf; rw [h]; rfl
theorem mulO_r {i j : Int} (h : small64 j = true) : mulO (.fr (.int i)) (.fr (.int j)) = some (.fr (.int (i * j))) := by
  have e : mulI (.fr (.int i)) (.fr (.int j)) = some (.fr (.int (i * j))) := by
    show (if (small64 i || small64 j) = true then some (Ob.fr (.int (i * j))) else none) = _
    rw [h, Bool.or_true]; rfl
  unfold mulO
  rw [e]
theorem modI_ok {i j : Int} (h : 0 < j) : modI (.fr (.int i)) (.fr (.int j)) = some (.fr (.int (i % j))) := by
  show (if decide (0 < j) = true then some (Ob.fr (.int (i % j))) else none) = _
  rw [decide_eq_true h]; rfl
theorem divI_ok {i j : Int} (h : 0 < j) (h2 : j < 1073741824) : divI (.fr (.int i)) (.fr (.int j)) = some (.fr (.int (i / j))) := by
  show (if (decide (0 < j) && decide (j < 1073741824)) = true then some (Ob.fr (.int (i / j))) else none) = _
  rw [decide_eq_true h, decide_eq_true h2]; rfl
theorem sm64_mod {i j : Int} (h : 0 < j) (h2 : j ≤ 2 ^ 63) : small64 (i % j) = true := by
  have a := Int.emod_nonneg i (by omega : j ≠ 0)
  have b := Int.emod_lt_of_pos i h
  unfold small64
  rw [decide_eq_true (by omega), decide_eq_true (by omega)]
  rfl
theorem pick3_ok (A B C D E : Int) (hA : small64 A = true := by decide) (hB : 0 < B := by decide) (hB2 : B ≤ 2 ^ 63 := by decide) (hC : small64 C = true := by decide) (hD : 0 < D := by decide) (hE : 0 < E := by decide) (hE2 : E < 1073741824 := by decide) : Pk (fnOfB 4 (pick3 A B C D E)) := fun l a b c many h1 h2 => by
  have fin : ∀ {x : Int} {o' : Ob} {ρ' : Env}, pick3 A B C D E [some (.src l a b c), some (.fr (.int many)), none, none] = some (.rt (.fr (.int x)) (some o' :: ρ')) → fnOfB 4 (pick3 A B C D E) (.src l a b c) [.int many] = some (.fr (.int x), o') := fun h => by
    show ((pick3 A B C D E [some (.src l a b c), some (.fr (.int many)), none, none]).bind _) = _
    rw [h]; rfl
  by_cases m2 : many < 2
  · refine ⟨0, l, a, b, c, fin (ρ' := [some (.fr (.int many)), none, none]) ?_, by omega, by omega⟩
    unfold pick3
    refine fSeq_rt ((fIf_t ?_).trans rfl)
    show some (decide (many < 2)) = _
    rw [decide_eq_true m2]
  · have c1 : bO (o2 ltA (rdV 1) (kO (.int 2))) [some (.src l a b c), some (.fr (.int many)), none, none] = some false := by
      show some (decide (many < 2)) = _
      rw [decide_eq_false m2]
    obtain ⟨l', a', hw⟩ := pk_loop (l.length + 1) l a b c [some (.fr (.int many)), none, none] (Nat.le_refl _)
    have s1 := fun g => (fSeq_nx (g := g) ((fIf_f (f := fRet (kO (.int 0))) (g := fNx) c1).trans rfl))
    have s2 := fun g => fSeq_nx (f := fWh (fuelS 0) pkC (fSrcPop 0)) (g := g) (ρ := [some (.src l a b c), some (.fr (.int many)), none, none]) hw
    have s3 := fun g => fSeq_nx (f := fSet 2 (srcI 0 .left)) (g := g) (ρ := [some (.src l' a' b c), some (.fr (.int many)), none, none]) (ρ' := [some (.src l' a' b c), some (.fr (.int many)), some (.fr (.int a')), none]) rfl
    by_cases a1 : 1 < a'
    · refine ⟨a' % many, l', a' / many, b, c, fin (ρ' := [some (.fr (.int many)), some (.fr (.int a')), none]) ?_, Int.emod_nonneg _ (by omega), Int.emod_lt_of_pos _ (by omega)⟩
      unfold pick3
      rw [s1, s2, s3]
      refine fSeq_rt ((fIf_t ?_).trans ?_)
      · show some (decide (1 < a')) = _
        rw [decide_eq_true a1]
      · refine (fSeq_nx (ρ' := [some (.src l' (a' / many) b c), some (.fr (.int many)), some (.fr (.int a')), none]) ?_).trans ?_
        · show ((divI (.fr (.int a')) (.fr (.int many))).bind _) = _
          rw [divI_ok (by omega) h2]; rfl
        · show ((modI (.fr (.int a')) (.fr (.int many))).bind _) = _
          rw [modI_ok (by omega)]; rfl
    · have c2 : bO (o2 gtA (rdV 2) (kO (.int 1))) [some (.src l' a' b c), some (.fr (.int many)), some (.fr (.int a')), none] = some false := by
        show some (decide (1 < a')) = _
        rw [decide_eq_false a1]
      let t := c + 1
      let x := (b + t * A) % B
      let y := (x * x + t * C) % D
      have sx : small64 x = true := sm64_mod hB hB2
      refine ⟨y / E % many, l', a', y, t, fin (ρ' := [some (.fr (.int many)), some (.fr (.int a')), some (.fr (.int y))]) ?_, Int.emod_nonneg _ (by omega), Int.emod_lt_of_pos _ (by omega)⟩
      unfold pick3
      rw [s1, s2, s3]
      refine (fSeq_nx (ρ' := [some (.src l' a' b c), some (.fr (.int many)), some (.fr (.int a')), none]) ((fIf_f c2).trans rfl)).trans ?_
      refine (fSeq_nx (ρ' := [some (.src l' a' b t), some (.fr (.int many)), some (.fr (.int a')), none]) rfl).trans ?_
      refine (fSeq_nx (ρ' := [some (.src l' a' b t), some (.fr (.int many)), some (.fr (.int a')), some (.fr (.int x))]) ?_).trans ?_
      · show (((((mulO (.fr (.int t)) (.fr (.int A))).bind fun q => addO (.fr (.int b)) q).bind fun o => some [o]).bind (g1 intO)).bind fun q => modI q (.fr (.int B))).bind _ = _
        rw [mulO_r hA]
        show (modI (.fr (.int (b + t * A))) (.fr (.int B))).bind _ = _
        rw [modI_ok hB]; rfl
      refine (fSeq_nx (ρ' := [some (.src l' a' b t), some (.fr (.int many)), some (.fr (.int a')), some (.fr (.int y))]) ?_).trans ?_
      · show (((((mulO (.fr (.int x)) (.fr (.int x))).bind fun p => (mulO (.fr (.int t)) (.fr (.int C))).bind fun q => addO p q).bind fun o => some [o]).bind (g1 intO)).bind fun q => modI q (.fr (.int D))).bind _ = _
        rw [mulO_r sx, mulO_r hC]
        show (modI (.fr (.int (x * x + t * C))) (.fr (.int D))).bind _ = _
        rw [modI_ok hD]; rfl
      refine (fSeq_nx (ρ' := [some (.src l' a' y t), some (.fr (.int many)), some (.fr (.int a')), some (.fr (.int y))]) rfl).trans ?_
      show ((((divI (.fr (.int y)) (.fr (.int E))).bind fun o => some [o]).bind (g1 intO)).bind fun q => modI q (.fr (.int many))).bind _ = _
      rw [divI_ok hE hE2]
      show (modI (.fr (.int (y / E))) (.fr (.int many))).bind _ = _
      rw [modI_ok (by omega)]; rfl
/-! ### the source itself -/
def Sc (F : FnB) : Prop := ∀ ns : List Int, ns.length ≤ 63 → ∃ l a b c, F (.scr ns) [] = some (.src l a b c, .scr ns)
def mixF (B C D E : Int) : FS := fSet 1 (o2 modI (oL (g1 intO) (lCons (o2 addO (o2 addO (o2 mulO (rdV 1) (kO (.int B))) (o2 mulO (rdV 2) (kO (.int C)))) (kO (.int D))) lNil)) (kO (.int E)))
theorem mix_for {B C D E : Int} (hB : small64 B = true) (hC : small64 C = true) (hE : 0 < E) (s0 : Option Ob) (t : Env) : ∀ (l : List Int) (m : Int) (x : Option Ob), ∃ m' x', forL (gN 2) (mixF B C D E) (l.map .int) (s0 :: some (.fr (.int m)) :: x :: t) = some (.nx (s0 :: some (.fr (.int m')) :: x' :: t))
  | [], m, x => ⟨m, x, rfl⟩
  | i :: l, m, x => by
    obtain ⟨m', x', ih⟩ := mix_for hB hC hE s0 t l ((m * B + i * C + D) % E) (some (.fr (.int i)))
    refine ⟨m', x', ?_⟩
    have e1 : mixF B C D E (s0 :: some (.fr (.int m)) :: some (.fr (.int i)) :: t) = some (.nx (s0 :: some (.fr (.int ((m * B + i * C + D) % E))) :: some (.fr (.int i)) :: t)) := by
      show (((((((mulO (.fr (.int m)) (.fr (.int B))).bind fun p => (mulO (.fr (.int i)) (.fr (.int C))).bind fun q => addO p q).bind fun p => addO p (.fr (.int D))).bind fun o => some [o]).bind (g1 intO)).bind fun q => modI q (.fr (.int E))).bind _) = _
      rw [mulO_r hB, mulO_r hC]
      show (modI (.fr (.int (m * B + i * C + D))) (.fr (.int E))).bind _ = _
      rw [modI_ok hE]; rfl
    show (((gN 2) (.int i) (s0 :: some (.fr (.int m)) :: x :: t)).bind fun ρ1 => (mixF B C D E ρ1).bind fun r => match r with
      | .nx ρ2 => forL (gN 2) (mixF B C D E) (l.map .int) ρ2
      | .ct ρ2 => forL (gN 2) (mixF B C D E) (l.map .int) ρ2
      | .bk ρ2 => some (.nx ρ2)
      | .rt o ρ2 => some (.rt o ρ2)) = _
    show ((mixF B C D E (s0 :: some (.fr (.int m)) :: some (.fr (.int i)) :: t)).bind fun r => _) = _
    rw [e1]
    exact ih
def absI (i : Int) : Int := if i < 0 then -i else i
theorem abs_lc (s0 s1 : Option Ob) (x : Option Ob) (t : Env) : ∀ l : List Int, lcL (gN 2) bYes (oL (g1 absO) (lCons (rdV 2) lNil)) (l.map .int) (s0 :: s1 :: x :: t) = some (l.map fun i => .int (absI i))
  | [] => rfl
  | i :: l => by
    have ih := abs_lc s0 s1 x t l
    show (lcL (gN 2) bYes (oL (g1 absO) (lCons (rdV 2) lNil)) (l.map .int) (s0 :: s1 :: x :: t)).bind (fun r => some (.int (absI i) :: r)) = _
    rw [ih]; rfl
theorem ints_map : ∀ l : List Int, intsOf (l.map PyData.int) = some l
  | [] => rfl
  | i :: l => by
    show ((intsOf (l.map PyData.int)).bind fun r => some (i :: r)) = _
    rw [ints_map l]; rfl
theorem short63 {α : Type} {l : List α} (f : α → PyData) (h : l.length ≤ 63) : short (l.map f) = true := by
  unfold short
  rw [List.length_map]
  exact Nat.ble_eq_true_of_le (by omega)
def src3 (A B C D E L : Int) : FS := fSeq (fSet 1 (kO (.int A))) (fSeq (fFor (iScr 0) (gN 2) (mixF B C D E)) (fRet (dSrc (o1 revO (oLc 3 [2] (iScr 0) (gN 2) bYes (oL (g1 absO) (lCons (rdV 2) lNil)))) (kO (.int L)) (frV 1) (kO (.int 0)))))
theorem src3_ok (A B C D E L : Int) (hB : small64 B = true := by decide) (hC : small64 C = true := by decide) (hE : 0 < E := by decide) : Sc (fnOfB 3 (src3 A B C D E L)) := fun ns hl => by
  obtain ⟨m, x, hf⟩ := mix_for hB hC hE (some (.scr ns)) [] ns A none
  refine ⟨(ns.map absI).reverse, L, m, 0, ?_⟩
  have e1 : oLc 3 [2] (iScr 0) (gN 2) bYes (oL (g1 absO) (lCons (rdV 2) lNil)) [some (.scr ns), some (.fr (.int m)), x] = some (.lst (ns.map fun i => .int (absI i))) := by
    show (if short (ns.map .int) = true then (lcL (gN 2) bYes (oL (g1 absO) (lCons (rdV 2) lNil)) (ns.map .int) [some (.scr ns), some (.fr (.int m)), none]).bind fun l => some (Ob.lst l) else none) = _
    rw [if_pos (short63 _ hl), abs_lc]; rfl
  have e2 : dSrc (o1 revO (oLc 3 [2] (iScr 0) (gN 2) bYes (oL (g1 absO) (lCons (rdV 2) lNil)))) (kO (.int L)) (frV 1) (kO (.int 0)) [some (.scr ns), some (.fr (.int m)), x] = some (.src (ns.map absI).reverse L m 0) := by
    show (((oLc 3 [2] (iScr 0) (gN 2) bYes (oL (g1 absO) (lCons (rdV 2) lNil)) [some (.scr ns), some (.fr (.int m)), x]).bind revO).bind _) = _
    rw [e1]
    show ((intsOf (ns.map fun i => PyData.int (absI i)).reverse).bind fun l => some (Ob.src l L m 0)) = _
    rw [show (ns.map fun i => PyData.int (absI i)).reverse = (ns.map absI).reverse.map .int by rw [List.map_reverse, List.map_map]; rfl, ints_map]
    rfl
  have e3 : src3 A B C D E L [some (.scr ns), none, none] = some (.rt (.src (ns.map absI).reverse L m 0) [some (.scr ns), some (.fr (.int m)), x]) := by
    unfold src3
    refine (fSeq_nx (ρ' := [some (.scr ns), some (.fr (.int A)), none]) rfl).trans ?_
    refine (fSeq_nx (ρ' := [some (.scr ns), some (.fr (.int m)), x]) hf).trans ?_
    unfold fRet
    rw [e2]; rfl
  show (src3 A B C D E L [some (.scr ns), none, none]).bind _ = _
  rw [e3]; rfl
end DL

namespace DL
open PySem PySem.Spec PyProof.Rows L2

/-! ## running a def that picks, part by part -/
def IsS (o : Ob) : Prop := ∃ l a b c, o = .src l a b c
/-- it ends with True, the source in slot 0 -/
def Tr (f : FS) (ρ : Env) : Prop := ∃ s' t, f ρ = some (.rt (.fr (.bool true)) (some s' :: t)) ∧ IsS s'
def WE (f : FE) (ρ : Env) (Q : Ob → Env → Prop) : Prop := ∃ o ρ', f ρ = some (o, ρ') ∧ Q o ρ'
def nxW (js : List Nat) (f : FS) (ρ : Env) : Option Env := (f ρ).bind fun r => match r with
  | .nx ρ1 => some (wipeE ρ1 js)
  | _ => none
def ret0 (f : FS) (ρ : Env) : Option Ob := (f ρ).bind fun r => match r with
  | .rt (.fr (.bool true)) ρ' => (ρ'[0]?).join
  | _ => none
def fillE : Env → List (Nat × Option Ob) → Env
  | ρ, [] => ρ
  | ρ, p :: r => fillE (ρ.set p.1 p.2) r
theorem wipe_fill (ρ : Env) : ∀ js : List Nat, ∃ xs : List (Option Ob), xs.length = js.length ∧ fillE (wipeE ρ js) (js.zip xs) = ρ
  | [] => ⟨[], rfl, rfl⟩
  | j :: js => by
    obtain ⟨xs, h1, h2⟩ := wipe_fill ρ js
    refine ⟨((wipeE ρ js)[j]?).join :: xs, by simp [h1], ?_⟩
    show fillE (((wipeE ρ js).set j none).set j ((wipeE ρ js)[j]?).join) (js.zip xs) = ρ
    have e : ((wipeE ρ js).set j none).set j ((wipeE ρ js)[j]?).join = wipeE ρ js := by
      rw [List.set_set]
      by_cases h : j < (wipeE ρ js).length
      · rw [List.getElem?_eq_getElem h]
        exact List.set_getElem_self h
      · rw [List.set_eq_of_length_le (Nat.le_of_not_lt h)]
    rw [e, h2]
theorem tr_seq {f g : FS} {ρ ρ2 : Env} (js : List Nat) (h : nxW js f ρ = some ρ2) (k : ∀ xs : List (Option Ob), xs.length = js.length → Tr g (fillE ρ2 (js.zip xs))) : Tr (fSeq f g) ρ := by
  obtain ⟨r, e, h⟩ := bind_some h
  cases r with
  | nx ρ1 =>
    cases h
    obtain ⟨xs, h1, h2⟩ := wipe_fill ρ1 js
    have q := k xs h1
    rw [h2] at q
    obtain ⟨s', t, e2, hs⟩ := q
    exact ⟨s', t, (fSeq_nx e).trans e2, hs⟩
  | _ => cases h
theorem tr_ret {f : FS} {s : Ob} {t : Env} (hs : IsS s) (h : ret0 f (some s :: t) = some s) : Tr f (some s :: t) := by
  obtain ⟨r, e, h⟩ := bind_some h
  split at h
  · rename_i ρ'
    cases ρ' with
    | nil => cases h
    | cons x t' =>
      obtain rfl : x = some s := h
      exact ⟨s, t', e, hs⟩
  · cases h
theorem tr_setE {i : Nat} {e : FE} {g : FS} {ρ : Env} (h : WE e ρ fun o ρ' => Tr g (ρ'.set i (some o))) : Tr (fSeq (fSetE i e) g) ρ := by
  obtain ⟨o, ρ', e1, s', t, e2, hs⟩ := h
  have q : fSetE i e ρ = some (.nx (ρ'.set i (some o))) := by unfold fSetE; rw [e1]; rfl
  exact ⟨s', t, (fSeq_nx q).trans e2, hs⟩
theorem tr_tgE {e : FE} {ga : FT} {g : FS} {ρ : Env} (h : WE e ρ fun o ρ' => ∃ d ρ2, fz o = some d ∧ ga d ρ' = some ρ2 ∧ Tr g ρ2) : Tr (fSeq (fTgE e ga) g) ρ := by
  obtain ⟨o, ρ', e1, d, ρ2, ed, e3, s', t, e2, hs⟩ := h
  have q : fTgE e ga ρ = some (.nx ρ2) := by
    unfold fTgE
    rw [e1, Option.bind_some, ed, Option.bind_some, e3]; rfl
  exact ⟨s', t, (fSeq_nx q).trans e2, hs⟩
theorem we_pick {F : FnB} (hP : Pk F) {fl : FDE} {s : Ob} {t : Env} {many : Int} {Q : Ob → Env → Prop} (hs : IsS s) (ha : fl (some s :: t) = some ([.int many], some s :: t)) (h1 : 1 ≤ many) (h2 : many < 1073741824) (h : ∀ v s', 0 ≤ v → v < many → IsS s' → Q (.fr (.int v)) (some s' :: t)) : WE (eCallB 0 1 F fl) (some s :: t) Q := by
  obtain ⟨l, a, b, c, rfl⟩ := hs
  obtain ⟨v, l', a', b', c', e, v1, v2⟩ := hP l a b c many h1 h2
  refine ⟨.fr (.int v), some (.src l' a' b' c') :: t, ?_, h v _ v1 v2 ⟨_, _, _, _, rfl⟩⟩
  show ((fl (some (.src l a b c) :: t)).bind _) = _
  rw [ha]
  show ((F (.src l a b c) [.int many]).bind _) = _
  rw [e]; rfl
theorem we_add {c : Int} {e : FE} {ρ : Env} {Q : Ob → Env → Prop} (h : WE e ρ fun o ρ' => ∃ v, o = .fr (.int v) ∧ Q (.fr (.int (c + v))) ρ') : WE (e2O addO (eP (kO (.int c))) e) ρ Q := by
  obtain ⟨o, ρ', e1, v, rfl, q⟩ := h
  refine ⟨_, ρ', ?_, q⟩
  show ((e ρ).bind _) = _
  rw [e1]; rfl
theorem tr_F {m : Nat} {b : FS} {s : Ob} {ds : List PyData} (h : Tr b (startB m s ds)) : ∃ s', fnOfB m b s ds = some (.fr (.bool true), s') ∧ IsS s' := by
  obtain ⟨s', t, e, hs⟩ := h
  refine ⟨s', ?_, hs⟩
  unfold fnOfB
  rw [e]; rfl
theorem IsS.mk (l : List Int) (a b c : Int) : IsS (.src l a b c) := ⟨l, a, b, c, rfl⟩
end DL

namespace DL
open PySem PySem.Spec PyProof.Rows L2

/-! ## a small logic for what writes -/
def WA (f : FDE) (ρ : Env) (Q : List PyData → Env → Prop) : Prop := ∃ ds ρ', f ρ = some (ds, ρ') ∧ Q ds ρ'
def WT (f : FBE) (ρ : Env) (Q : Bool → Env → Prop) : Prop := ∃ b ρ', f ρ = some (b, ρ') ∧ Q b ρ'
def WS (f : FS) (ρ : Env) (Q : Out → Prop) : Prop := ∃ r, f ρ = some r ∧ Q r
section
variable {ρ ρ1 : Env} {f g h : FE} {fa : FDE} {t u : FBE} {a b : FS}
theorem WE.mono {Q Q' : Ob → Env → Prop} (h : WE f ρ Q) (k : ∀ o ρ, Q o ρ → Q' o ρ) : WE f ρ Q' := let ⟨o, ρ', e, q⟩ := h; ⟨o, ρ', e, k _ _ q⟩
theorem we_p {p : F1} {o : Ob} {Q : Ob → Env → Prop} (e : p ρ = some o) (q : Q o ρ) : WE (eP p) ρ Q := ⟨o, ρ, by unfold eP; rw [e]; rfl, q⟩
theorem we_call {n : Nat} {F : Fn} {Q : Ob → Env → Prop} (h : WA fa ρ fun ds ρ' => ds.length = n ∧ ∃ o, F ds = some o ∧ Q o ρ') : WE (eCall n F fa) ρ Q := by
  obtain ⟨ds, ρ', e, hn, o, eo, q⟩ := h
  refine ⟨o, ρ', ?_, q⟩
  unfold eCall
  rw [e, Option.bind_some, if_pos (by rw [hn]; exact Nat.beq_refl n), eo]
  rfl
theorem we_callB {i n : Nat} {G : FnB} {Q : Ob → Env → Prop} (h0 : ∃ o, ρ[i]? = some (some o)) (h : WA fa ρ fun ds ρ' => ds.length = n ∧ ∃ s r s', ρ'[i]? = some (some s) ∧ G s ds = some (r, s') ∧ Q r (ρ'.set i (some s'))) : WE (eCallB i n G fa) ρ Q := by
  obtain ⟨o, h0⟩ := h0
  obtain ⟨ds, ρ', e, hn, s, r, s', es, eg, q⟩ := h
  refine ⟨r, ρ'.set i (some s'), ?_, q⟩
  unfold eCallB
  rw [h0]
  show ((fa ρ).bind _) = _
  rw [e, Option.bind_some, if_pos (by rw [hn]; exact Nat.beq_refl n), es]
  show ((G s ds).bind _) = _
  rw [eg]
  rfl
theorem wa_nil {Q : List PyData → Env → Prop} (q : Q [] ρ) : WA eaNil ρ Q := ⟨[], ρ, rfl, q⟩
theorem wa_cons {Q : List PyData → Env → Prop} (h : WE f ρ fun o ρ' => ∃ d, fz o = some d ∧ WA fa ρ' fun ds ρ'' => Q (d :: ds) ρ'') : WA (eaCons f fa) ρ Q := by
  obtain ⟨o, ρ', e, d, ed, ds, ρ'', e2, q⟩ := h
  refine ⟨d :: ds, ρ'', ?_, q⟩
  unfold eaCons
  rw [e, Option.bind_some, ed, Option.bind_some, e2]
  rfl
theorem wa_p {p : F1} {d : PyData} {Q : List PyData → Env → Prop} (e : p ρ = some (.fr d)) (h : WA fa ρ fun ds ρ'' => Q (d :: ds) ρ'') : WA (eaCons (eP p) fa) ρ Q := wa_cons (we_p e ⟨d, rfl, h⟩)
theorem we_if {Q : Ob → Env → Prop} (h : WT t ρ fun b ρ' => if b = true then WE f ρ' Q else WE g ρ' Q) : WE (eIf t f g) ρ Q := by
  obtain ⟨b, ρ', e, q⟩ := h
  cases b with
  | true =>
    rw [if_pos rfl] at q
    obtain ⟨o, ρ2, e2, q⟩ := q
    exact ⟨o, ρ2, by unfold eIf; rw [e, Option.bind_some, if_pos rfl]; exact e2, q⟩
  | false =>
    rw [if_neg Bool.false_ne_true] at q
    obtain ⟨o, ρ2, e2, q⟩ := q
    exact ⟨o, ρ2, by unfold eIf; rw [e, Option.bind_some, if_neg Bool.false_ne_true]; exact e2, q⟩
theorem we_2 {k : Ob → Ob → Option Ob} {Q : Ob → Env → Prop} (h : WE f ρ fun o ρ' => ∃ d, fz o = some d ∧ WE g ρ' fun o' ρ'' => ∃ d', fz o' = some d' ∧ ∃ r, k (.fr d) (.fr d') = some r ∧ Q r ρ'') : WE (e2O k f g) ρ Q := by
  obtain ⟨o, ρ', e, d, ed, o', ρ'', e2, d', ed', r, er, q⟩ := h
  refine ⟨r, ρ'', ?_, q⟩
  unfold e2O
  rw [e, Option.bind_some, ed, Option.bind_some, e2, Option.bind_some, ed', Option.bind_some, er]
  rfl
theorem we_and {Q : Ob → Env → Prop} (h : WE f ρ fun o ρ' => ∃ b, asB o = some b ∧ if b = true then WE g ρ' Q else Q (.fr (.bool false)) ρ') : WE (eAndV f g) ρ Q := by
  obtain ⟨o, ρ', e, b, eb, q⟩ := h
  cases b with
  | true =>
    rw [if_pos rfl] at q
    obtain ⟨o2, ρ2, e2, q⟩ := q
    exact ⟨o2, ρ2, by unfold eAndV; rw [e, Option.bind_some, eb, Option.bind_some, if_pos rfl]; exact e2, q⟩
  | false =>
    rw [if_neg Bool.false_ne_true] at q
    exact ⟨_, ρ', by unfold eAndV; rw [e, Option.bind_some, eb, Option.bind_some, if_neg Bool.false_ne_true], q⟩
theorem wt_p {p : FB} {b : Bool} {Q : Bool → Env → Prop} (e : p ρ = some b) (q : Q b ρ) : WT (ePB p) ρ Q := ⟨b, ρ, by unfold ePB; rw [e]; rfl, q⟩
theorem wt_b {Q : Bool → Env → Prop} (h : WE f ρ fun o ρ' => ∃ b, asB o = some b ∧ Q b ρ') : WT (eBO f) ρ Q := by
  obtain ⟨o, ρ', e, b, eb, q⟩ := h
  refine ⟨b, ρ', ?_, q⟩
  unfold eBO
  rw [e, Option.bind_some, eb]
  rfl
theorem wt_not {Q : Bool → Env → Prop} (h : WT t ρ fun b ρ' => Q (!b) ρ') : WT (eNot t) ρ Q := by
  obtain ⟨b, ρ', e, q⟩ := h
  exact ⟨!b, ρ', by unfold eNot; rw [e]; rfl, q⟩
theorem wt_and {Q : Bool → Env → Prop} (h : WT t ρ fun b ρ' => if b = true then WT u ρ' Q else Q false ρ') : WT (eAnd t u) ρ Q := by
  obtain ⟨b, ρ', e, q⟩ := h
  cases b with
  | true =>
    rw [if_pos rfl] at q
    obtain ⟨o, ρ2, e2, q⟩ := q
    exact ⟨o, ρ2, by unfold eAnd; rw [e, Option.bind_some, if_pos rfl]; exact e2, q⟩
  | false =>
    rw [if_neg Bool.false_ne_true] at q
    exact ⟨false, ρ', by unfold eAnd; rw [e, Option.bind_some, if_neg Bool.false_ne_true], q⟩
theorem wt_or {Q : Bool → Env → Prop} (h : WT t ρ fun b ρ' => if b = true then Q true ρ' else WT u ρ' Q) : WT (eOr t u) ρ Q := by
  obtain ⟨b, ρ', e, q⟩ := h
  cases b with
  | true =>
    rw [if_pos rfl] at q
    exact ⟨true, ρ', by unfold eOr; rw [e, Option.bind_some, if_pos rfl], q⟩
  | false =>
    rw [if_neg Bool.false_ne_true] at q
    obtain ⟨o, ρ2, e2, q⟩ := q
    exact ⟨o, ρ2, by unfold eOr; rw [e, Option.bind_some, if_neg Bool.false_ne_true]; exact e2, q⟩
/-! statements -/
theorem ws_seq {Q : Out → Prop} (h : WS a ρ fun r => ∃ ρ', r = .nx ρ' ∧ WS b ρ' Q) : WS (fSeq a b) ρ Q := by
  obtain ⟨r, e, ρ', rfl, r2, e2, q⟩ := h
  exact ⟨r2, (fSeq_nx e).trans e2, q⟩
theorem ws_nx {Q : Out → Prop} (e : a ρ = some (.nx ρ1)) (h : WS b ρ1 Q) : WS (fSeq a b) ρ Q := ws_seq ⟨_, e, _, rfl, h⟩
theorem ws_set {i : Nat} {Q : Out → Prop} (h : WE f ρ fun o ρ' => WS b (ρ'.set i (some o)) Q) : WS (fSeq (fSetE i f) b) ρ Q := by
  obtain ⟨o, ρ', e, q⟩ := h
  exact ws_nx (by unfold fSetE; rw [e]; rfl) q
theorem ws_ifF {x y : FS} {Q : Out → Prop} (h : WT t ρ fun b ρ' => b = false ∧ WS y ρ' Q) : WS (fIfE t x y) ρ Q := by
  obtain ⟨b, ρ', e, rfl, r, e2, q⟩ := h
  exact ⟨r, by unfold fIfE; rw [e, Option.bind_some, if_neg Bool.false_ne_true]; exact e2, q⟩
theorem ws_ret {Q : Out → Prop} (h : WE f ρ fun o ρ' => Q (.rt o ρ')) : WS (fRetE f) ρ Q := by
  obtain ⟨o, ρ', e, q⟩ := h
  exact ⟨_, by unfold fRetE; rw [e]; rfl, q⟩
end
theorem law_end {m : Nat} {b : FS} {ns : List Int} (h : WS b (startB m (.scr ns) []) fun r => ∃ o t, r = .rt (.fr (.bool true)) (some o :: t)) : ∃ o', fnOfB m b (.scr ns) [] = some (.fr (.bool true), o') := by
  obtain ⟨r, e, o, t, rfl⟩ := h
  exact ⟨o, by unfold fnOfB; rw [e]; rfl⟩
/-- a pick from the source in slot 1 -/
theorem we_pick1 {F : FnB} (hP : Pk F) {fl : FDE} {x : Option Ob} {s : Ob} {t : Env} {many : Int} {Q : Ob → Env → Prop} (hs : IsS s) (ha : fl (x :: some s :: t) = some ([.int many], x :: some s :: t)) (h1 : 1 ≤ many) (h2 : many < 1073741824) (h : ∀ v s', 0 ≤ v → v < many → IsS s' → Q (.fr (.int v)) (x :: some s' :: t)) : WE (eCallB 1 1 F fl) (x :: some s :: t) Q := by
  obtain ⟨l, a, b, c, rfl⟩ := hs
  obtain ⟨v, l', a', b', c', e, v1, v2⟩ := hP l a b c many h1 h2
  exact we_callB ⟨_, rfl⟩ ⟨[.int many], _, ha, rfl, _, _, _, rfl, e, h v _ v1 v2 ⟨_, _, _, _, rfl⟩⟩
/-- a def's own check, the source in slot 1 -/
theorem we_good1 {G : FnB} {n : Nat} {fl : FDE} {x : Option Ob} {s : Ob} {t : Env} {ds : List PyData} {Q : Ob → Env → Prop} (ha : fl (x :: some s :: t) = some (ds, x :: some s :: t)) (hn : ds.length = n) (hG : ∃ s', G s ds = some (.fr (.bool true), s') ∧ IsS s') (h : ∀ s', IsS s' → Q (.fr (.bool true)) (x :: some s' :: t)) : WE (eCallB 1 n G fl) (x :: some s :: t) Q := by
  obtain ⟨s', e, hs⟩ := hG
  exact we_callB ⟨_, rfl⟩ ⟨ds, _, ha, hn, _, _, _, rfl, e, h s' hs⟩
end DL

namespace DL
open PySem PySem.Spec PyProof.Rows L2

/-! ## a list of new lists: [[..] for ..], each of them one's own -/
def llL (ga : FT) (te : F1) : List PyData → Env → Option (List (List PyData))
  | [], _ => some []
  | d :: ds, ρ => (ga d ρ).bind fun ρ1 => (te ρ1).bind fun o => match o with
    | .lst x => (llL ga te ds ρ).bind fun r => some (x :: r)
    | _ => none
def oLL (n : Nat) (vs : List Nat) (fi : FD) (ga : FT) (te : F1) : F1 := fun ρ => if Nat.beq ρ.length n then (fi ρ).bind fun ds => if short ds then (llL ga te ds (wipeE ρ vs)).bind fun l => some (.ll l) else none else none
section
variable {X : Cx} {K : PySem.W.Frag} {pos : Pos} {fi : FD} {ga : FT} {te : F1} {n : Nat} {vs : List Nat}
theorem LLs.snoc {Z : Zs} {H : Hp} {b : Addr} {ws : List V} {x : List PyData} {bs : List Addr} {ls : List (List PyData)} (h : LLs K Z H bs ls) (e : H b = some (.lst ws)) (d : DpZs K Z H ws x) : LLs K Z H (bs ++ [b]) (ls ++ [x]) := by
  induction h with
  | nil => exact .cons e d .nil
  | cons e2 d2 _ ih => exact .cons e2 d2 ih
theorem LLs.other {Z : Zs} {H : Hp} {D : Addr} {o : HO} (nz : ¬ Z D) (nt : ∀ xs, H D ≠ some (.tup xs)) {bs : List Addr} {ls : List (List PyData)} (h : LLs K Z H bs ls) (nd : D ∉ bs) : LLs K Z (L2.upd H D o) bs ls := by
  induction h with
  | nil => exact .nil
  | cons e d _ ih => exact .cons (by rw [upd_ne (fun q => nd (by rw [← q]; exact List.mem_cons_self))]; exact e) (d.upd nz nt) (ih fun m => nd (List.mem_cons_of_mem _ m))
theorem runLL {σ : L2.St} {H : Hp} {Q : VK} (h : tP K (oLL n vs fi ga te) σ H Q) : tLc (tI K fi) (tG K (offs n vs) ga) (tT K bYes) (tP K te) vs σ H Q := by
  obtain ⟨Z, ρ, fp, o, S, e, k⟩ := h
  have e : (if Nat.beq ρ.length n = true then (fi ρ).bind fun ds => if short ds = true then (llL ga te ds (wipeE ρ vs)).bind fun l => some (.ll l) else none else none) = some o := e
  split at e
  · rename_i hn
    have hn : ρ.length = n := Nat.eq_of_beq_eq_true hn
    obtain ⟨ds, ed, e⟩ := bind_some e
    split at e
    · rename_i hs
      have hs := short_ok hs
      obtain ⟨l, el, e⟩ := bind_some e
      cases e
      refine ⟨Z, ρ, fp, ds, S, ed, fun Z1 H1 J it a1 D nD => ?_⟩
      have S1 := S.still a1
      have za1 := S1.za
      have nzD : ¬ Z1 D := fun z => by
        obtain ⟨o, q⟩ := za1 D z
        rw [nD] at q; cases q
      have own0 : Own Z1 (upd H1 D (.lst [])) [D] := ⟨by simp, fun a m => by rw [List.mem_singleton.mp m]; exact nzD, fun a m => by rw [List.mem_singleton.mp m]; exact ⟨_, upd_same, trivial⟩⟩
      refine ⟨fun i m H2 => ∃ Z2 bs ls rest, m = ds.length - i ∧ i ≤ ds.length ∧ H2 D = some (.lst (bs.map V.ref)) ∧ LLs K Z2 H2 bs ls ∧ Own Z2 H2 (D :: bs) ∧ bs.length ≤ i ∧ Fr H1 [] Z1 H2 (D :: bs) Z2 ∧ llL ga te (ds.drop i) (wipeE ρ vs) = some rest ∧ ls ++ rest = l,
        ⟨_, Z1, [], [], l, rfl, Nat.zero_le _, upd_same, .nil, own0, Nat.le_refl _, upd_fr nD Z1 (fun _ z => z) (fun _ z => .inl z) (fun b m => by simpa using m), el, rfl⟩, ?_⟩
      rintro i m H2 ⟨Z2, bs, ls, rest, rfl, hi, hD, dv, ow2, hlen, a2, e2, el2⟩
      have a2' : Fr H1 [] Z1 H2 [] Z2 := a2.less fun _ m => (nomatch m)
      have S2 := S1.still a2'
      obtain ⟨go, stop⟩ := it i Z2 H2 ⟨a2.zup, fun b u z e => a2.same b u e (by simp), fun b xs e => a2.same b _ e (by simp)⟩ S2.za
      by_cases hlt : i < ds.length
      · obtain ⟨g1, g2⟩ := go ds[i] (List.getElem?_eq_getElem hlt)
        rw [List.drop_eq_getElem_cons hlt] at e2
        obtain ⟨ρ3, e3, e2⟩ := bind_some (show ((ga ds[i] (wipeE ρ vs)).bind fun ρ1 => (te ρ1).bind fun o => match o with | .lst x => (llL ga te (ds.drop (i + 1)) (wipeE ρ vs)).bind fun r => some (x :: r) | _ => none) = some rest from e2)
        obtain ⟨o6, e6, e2⟩ := bind_some e2
        refine .inr ⟨g1, fun H' => ∃ Z2 bs ls rest, i + 1 ≤ ds.length ∧ H' D = some (.lst (bs.map V.ref)) ∧ LLs K Z2 H' bs ls ∧ Own Z2 H' (D :: bs) ∧ bs.length ≤ i + 1 ∧ Fr H1 [] Z1 H' (D :: bs) Z2 ∧ llL ga te (ds.drop (i + 1)) (wipeE ρ vs) = some rest ∧ ls ++ rest = l, fun H' ⟨Z2, bs, ls, rest, q⟩ => ⟨_, by omega, Z2, bs, ls, rest, rfl, q⟩, fun x H3 y => ?_⟩
        obtain ⟨Z3, dx, a3⟩ := g2 x H3 y
        have S3 := S2.still a3
        obtain ⟨fpw, Sw, _⟩ := S3.wipe vs
        refine ⟨Z3, _, fpw, ds[i], ρ3, Sw, dx, e3, fun σ4 fp4 S4 s4 k4 => ⟨wipe_back (by rw [S.er.len]; exact hn) k4, Z3, ρ3, fp4, true, S4, rfl, fun Z5 H5 a5 => ?_⟩⟩
        have a35 := a3.trans a5
        refine L2.iteT ?_
        cases o6 with
        | lst x6 =>
          obtain ⟨r6, er6, e2⟩ := bind_some (show ((llL ga te (ds.drop (i + 1)) (wipeE ρ vs)).bind fun r => some (x6 :: r)) = some rest from e2)
          cases e2
          refine ⟨Z5, ρ3, fp4, .lst x6, S4.still a5, e6, fun Z6 H6 v6 g6 r6' o6' a6 => ?_⟩
          obtain ⟨b, ws, rfl, rfl, hb, dw⟩ := lst_of r6'
          have a26 : Fr H2 [] Z2 H6 [b] Z6 := a35.trans a6
          have ow6 : Own Z6 H6 ((D :: bs) ++ [b]) := ow2.fresh a26 o6'
          have hD6 : H6 D = some (.lst (bs.map V.ref)) := a26.same _ _ hD (by simp)
          have dv6 : LLs K Z6 H6 bs ls := dv.keep a26 (fun _ _ _ m => (nomatch m)) (fun _ _ m => (nomatch m)) fun _ _ m => (nomatch m)
          have nzD6 : ¬ Z6 D := ow6.nz D (by simp)
          have ntD6 : ∀ xs, H6 D ≠ some (.tup xs) := fun xs q => by rw [hD6] at q; cases q
          have ndD : D ∉ bs ++ [b] := by
            have q := ow6.nd
            rw [List.cons_append, List.nodup_cons] at q
            exact q.1
          have fr6 : Fr H1 [] Z1 H6 (D :: (bs ++ [b])) Z6 := by
            have q := a26.aside (g := D :: bs)
            rw [List.append_nil] at q
            exact a2.trans q
          refine ⟨bs.map V.ref, hD6, by rw [List.length_map]; omega, Z6, bs ++ [b], ls ++ [x6], r6, hlt, ?_, ?_, ?_, ?_, ?_, er6, by rw [← el2]; simp⟩
          · rw [List.map_append]; exact upd_same
          · exact (dv6.snoc hb dw).other nzD6 ntD6 ndD
          · exact Own.upd1 (by simpa using ow6) trivial
          · rw [List.length_append]; simp; omega
          · exact fr6.trans (Fr.upd1 ⟨_, hD6⟩ (by simp))
        | _ => cases e2
      · have hl : ds.length ≤ i := Nat.le_of_not_lt hlt
        rw [List.drop_eq_nil_of_le hl] at e2
        cases e2
        rw [List.append_nil] at el2
        subst el2
        exact .inl ⟨stop hl, k Z2 H2 (.ref D) (D :: bs) (.ll hD dv) ow2 (a1.trans a2)⟩
    · cases e
  · cases e
theorem d_ll {elt tg iter : Expr} {scope : Scope} (own : List (Str × Nat)) {n : Nat} (hc : X.calm = true) (hN : X.N.Nodup) (hi : DI X tg iter fi) (ok : BlkOk X.N X.env.scope scope own)
    (hg : BlkAll X scope fun X => DG X (offs n (own.map (·.2))) tg ga) (he : BlkAll X scope fun X => DP X elt te) (hs : ∀ x, foldedSetIterable iter X.env x = pure x := by intro _; rfl) :
    DP X (.ListComp elt [⟨tg, iter, [], 0⟩] scope pos) (oLL n (own.map (·.2)) fi ga te) := PE.imp (pe_lc hc hN hi ok hg (fun _ _ _ _ _ => ts_nil) he hs) fun _ _ _ h => runLL h
theorem s_setLL (i : Nat) {B : List Nat} {y : Str} {py spos : Pos} {elt tg iter : Expr} {scope : Scope} (own : List (Str × Nat)) {n : Nat} (hc : X.calm = true) (hN : X.N.Nodup) (hi : DI X tg iter fi) (ok : BlkOk X.N X.env.scope scope own)
    (hg : BlkAll X scope fun X => DG X (offs n (own.map (·.2))) tg ga) (he : BlkAll X scope fun X => DP X elt te) (hsw : swapsWith (.ListComp elt [⟨tg, iter, [], 0⟩] scope pos) (some (.Name y py)) spos.line X.env = pure true)
    (hy : X.N[i]? = some y := by rfl) (hyl : X.env.scope.names.lookup y = some .local := by rfl) (hB : i ∉ B := by decide) (hs : ∀ x, foldedSetIterable iter X.env x = pure x := by intro _; rfl) :
    DS X B (.Assign [.Name y py] (.ListComp elt [⟨tg, iter, [], 0⟩] scope pos) spos) (fSet i (oLL n (own.map (·.2)) fi ga te)) := PS.imp (ps_setLc hc hN hy hyl hsw hi ok hg (fun _ _ _ _ _ => ts_nil) he hs) fun D σ H h => runSet (fun _ _ _ h => runLL h) hB h
end
end DL

namespace LW
open PySem PySem.Spec PyProof.Rows L2 DL
def top (i : Nat) : Stmt := PySem.Challenge.pw_placesdefended_k30_whole_pieces_at_peace.main.body.getD i (.Pass ⟨0, 0, 0, 0⟩)
def t_STEPS : List (Str × List (List Int)) := [((PySem.Str.ofString "rook"), [[0, 1], [1, 0]]), ((PySem.Str.ofString "bishop"), [[1, 1], [1, -1]]), ((PySem.Str.ofString "queen"), [[0, 1], [1, 0], [1, 1], [1, -1]]), ((PySem.Str.ofString "king"), [[0, 1], [1, 0], [1, 1], [1, -1]]), ((PySem.Str.ofString "knight"), [[1, 2], [2, 1], [1, -2], [2, -1]])]
/-! ## the head -/
structure Hd (w : World) (K : PySem.W.Frag) (mg : Str → Option Value) : Prop where
  fr_abs : mg (PySem.Str.ofString "abs") = none
  fr_any : mg (PySem.Str.ofString "any") = none
  fr_dict : mg (PySem.Str.ofString "dict") = none
  fr_enumerate : mg (PySem.Str.ofString "enumerate") = none
  fr_int : mg (PySem.Str.ofString "int") = none
  fr_len : mg (PySem.Str.ofString "len") = none
  fr_list : mg (PySem.Str.ofString "list") = none
  fr_max : mg (PySem.Str.ofString "max") = none
  fr_min : mg (PySem.Str.ofString "min") = none
  fr_range : mg (PySem.Str.ofString "range") = none
  fr_repr : mg (PySem.Str.ofString "repr") = none
  fr_sorted : mg (PySem.Str.ofString "sorted") = none
  fr_tuple : mg (PySem.Str.ofString "tuple") = none
  gl_STEPS : mg (PySem.Str.ofString "STEPS") = some (.ref (He.ga K (PySem.Str.ofString "STEPS")))
  tab_STEPS : KTab K w (He.ga K (PySem.Str.ofString "STEPS")) t_STEPS
  gl_all_squares : mg (PySem.Str.ofString "all_squares") = some (.ref (He.ga K (PySem.Str.ofString "all_squares")))
  fd_all_squares : ∃ fd, FunD K (PySem.Str.ofString "all_squares") (PySem.Str.ofString "all_squares") (defArgs (top 2)) (defBody (top 2)) (defScope (top 2)) [] [] (He.ga K (PySem.Str.ofString "all_squares")) fd
  gl_how_far : mg (PySem.Str.ofString "how_far") = some (.ref (He.ga K (PySem.Str.ofString "how_far")))
  fd_how_far : ∃ fd, FunD K (PySem.Str.ofString "how_far") (PySem.Str.ofString "how_far") (defArgs (top 3)) (defBody (top 3)) (defScope (top 3)) [] [] (He.ga K (PySem.Str.ofString "how_far")) fd
  gl_reached_squares : mg (PySem.Str.ofString "reached_squares") = some (.ref (He.ga K (PySem.Str.ofString "reached_squares")))
  fd_reached_squares : ∃ fd, FunD K (PySem.Str.ofString "reached_squares") (PySem.Str.ofString "reached_squares") (defArgs (top 4)) (defBody (top 4)) (defScope (top 4)) [] [] (He.ga K (PySem.Str.ofString "reached_squares")) fd
  gl_watched_squares : mg (PySem.Str.ofString "watched_squares") = some (.ref (He.ga K (PySem.Str.ofString "watched_squares")))
  fd_watched_squares : ∃ fd, FunD K (PySem.Str.ofString "watched_squares") (PySem.Str.ofString "watched_squares") (defArgs (top 5)) (defBody (top 5)) (defScope (top 5)) [] [] (He.ga K (PySem.Str.ofString "watched_squares")) fd
  gl_is_watching_board : mg (PySem.Str.ofString "is_watching_board") = some (.ref (He.ga K (PySem.Str.ofString "is_watching_board")))
  fd_is_watching_board : ∃ fd, FunD K (PySem.Str.ofString "is_watching_board") (PySem.Str.ofString "is_watching_board") (defArgs (top 6)) (defBody (top 6)) (defScope (top 6)) [] [] (He.ga K (PySem.Str.ofString "is_watching_board")) fd
  gl_is_at_peace : mg (PySem.Str.ofString "is_at_peace") = some (.ref (He.ga K (PySem.Str.ofString "is_at_peace")))
  fd_is_at_peace : ∃ fd, FunD K (PySem.Str.ofString "is_at_peace") (PySem.Str.ofString "is_at_peace") (defArgs (top 7)) (defBody (top 7)) (defScope (top 7)) [] [] (He.ga K (PySem.Str.ofString "is_at_peace")) fd
  gl_peaceful_next : mg (PySem.Str.ofString "peaceful_next") = some (.ref (He.ga K (PySem.Str.ofString "peaceful_next")))
  fd_peaceful_next : ∃ fd, FunD K (PySem.Str.ofString "peaceful_next") (PySem.Str.ofString "peaceful_next") (defArgs (top 8)) (defBody (top 8)) (defScope (top 8)) [] [] (He.ga K (PySem.Str.ofString "peaceful_next")) fd
  gl_most_at_peace : mg (PySem.Str.ofString "most_at_peace") = some (.ref (He.ga K (PySem.Str.ofString "most_at_peace")))
  fd_most_at_peace : ∃ fd, FunD K (PySem.Str.ofString "most_at_peace") (PySem.Str.ofString "most_at_peace") (defArgs (top 9)) (defBody (top 9)) (defScope (top 9)) [] [] (He.ga K (PySem.Str.ofString "most_at_peace")) fd
  gl_bishop_number : mg (PySem.Str.ofString "bishop_number") = some (.ref (He.ga K (PySem.Str.ofString "bishop_number")))
  fd_bishop_number : ∃ fd, FunD K (PySem.Str.ofString "bishop_number") (PySem.Str.ofString "bishop_number") (defArgs (top 11)) (defBody (top 11)) (defScope (top 11)) [] [] (He.ga K (PySem.Str.ofString "bishop_number")) fd
  gl_bishop_peace : mg (PySem.Str.ofString "bishop_peace") = some (.ref (He.ga K (PySem.Str.ofString "bishop_peace")))
  fd_bishop_peace : ∃ fd, FunD K (PySem.Str.ofString "bishop_peace") (PySem.Str.ofString "bishop_peace") (defArgs (top 12)) (defBody (top 12)) (defScope (top 12)) [] [] (He.ga K (PySem.Str.ofString "bishop_peace")) fd
  gl_told_bishops : mg (PySem.Str.ofString "told_bishops") = some (.ref (He.ga K (PySem.Str.ofString "told_bishops")))
  fd_told_bishops : ∃ fd, FunD K (PySem.Str.ofString "told_bishops") (PySem.Str.ofString "told_bishops") (defArgs (top 13)) (defBody (top 13)) (defScope (top 13)) [] [] (He.ga K (PySem.Str.ofString "told_bishops")) fd
  gl_told_bishop_peace : mg (PySem.Str.ofString "told_bishop_peace") = some (.ref (He.ga K (PySem.Str.ofString "told_bishop_peace")))
  fd_told_bishop_peace : ∃ fd, FunD K (PySem.Str.ofString "told_bishop_peace") (PySem.Str.ofString "told_bishop_peace") (defArgs (top 14)) (defBody (top 14)) (defScope (top 14)) [] [] (He.ga K (PySem.Str.ofString "told_bishop_peace")) fd
  gl_bishop_block : mg (PySem.Str.ofString "bishop_block") = some (.ref (He.ga K (PySem.Str.ofString "bishop_block")))
  fd_bishop_block : ∃ fd, FunD K (PySem.Str.ofString "bishop_block") (PySem.Str.ofString "bishop_block") (defArgs (top 15)) (defBody (top 15)) (defScope (top 15)) [] [] (He.ga K (PySem.Str.ofString "bishop_block")) fd
  gl_sign_bounds : mg (PySem.Str.ofString "sign_bounds") = some (.ref (He.ga K (PySem.Str.ofString "sign_bounds")))
  fd_sign_bounds : ∃ fd, FunD K (PySem.Str.ofString "sign_bounds") (PySem.Str.ofString "sign_bounds") (defArgs (top 16)) (defBody (top 16)) (defScope (top 16)) [] [] (He.ga K (PySem.Str.ofString "sign_bounds")) fd
  gl_king_peace : mg (PySem.Str.ofString "king_peace") = some (.ref (He.ga K (PySem.Str.ofString "king_peace")))
  fd_king_peace : ∃ fd, FunD K (PySem.Str.ofString "king_peace") (PySem.Str.ofString "king_peace") (defArgs (top 18)) (defBody (top 18)) (defScope (top 18)) [] [] (He.ga K (PySem.Str.ofString "king_peace")) fd
  gl_places_by : mg (PySem.Str.ofString "places_by") = some (.ref (He.ga K (PySem.Str.ofString "places_by")))
  fd_places_by : ∃ fd, FunD K (PySem.Str.ofString "places_by") (PySem.Str.ofString "places_by") (defArgs (top 19)) (defBody (top 19)) (defScope (top 19)) [] [] (He.ga K (PySem.Str.ofString "places_by")) fd
  gl_squares_by : mg (PySem.Str.ofString "squares_by") = some (.ref (He.ga K (PySem.Str.ofString "squares_by")))
  fd_squares_by : ∃ fd, FunD K (PySem.Str.ofString "squares_by") (PySem.Str.ofString "squares_by") (defArgs (top 20)) (defBody (top 20)) (defScope (top 20)) [] [] (He.ga K (PySem.Str.ofString "squares_by")) fd
  gl_told_king_peace : mg (PySem.Str.ofString "told_king_peace") = some (.ref (He.ga K (PySem.Str.ofString "told_king_peace")))
  fd_told_king_peace : ∃ fd, FunD K (PySem.Str.ofString "told_king_peace") (PySem.Str.ofString "told_king_peace") (defArgs (top 21)) (defBody (top 21)) (defScope (top 21)) [] [] (He.ga K (PySem.Str.ofString "told_king_peace")) fd
  gl__law_source : mg (PySem.Str.ofString "_law_source") = some (.ref (He.ga K (PySem.Str.ofString "_law_source")))
  fd__law_source : ∃ fd, FunD K (PySem.Str.ofString "_law_source") (PySem.Str.ofString "_law_source") (defArgs (top 23)) (defBody (top 23)) (defScope (top 23)) [] [] (He.ga K (PySem.Str.ofString "_law_source")) fd
  gl__law_pick : mg (PySem.Str.ofString "_law_pick") = some (.ref (He.ga K (PySem.Str.ofString "_law_pick")))
  fd__law_pick : ∃ fd, FunD K (PySem.Str.ofString "_law_pick") (PySem.Str.ofString "_law_pick") (defArgs (top 24)) (defBody (top 24)) (defScope (top 24)) [] [] (He.ga K (PySem.Str.ofString "_law_pick")) fd
  gl__law_of : mg (PySem.Str.ofString "_law_of") = some (.ref (He.ga K (PySem.Str.ofString "_law_of")))
  fd__law_of : ∃ fd, FunD K (PySem.Str.ofString "_law_of") (PySem.Str.ofString "_law_of") (defArgs (top 25)) (defBody (top 25)) (defScope (top 25)) [] [] (He.ga K (PySem.Str.ofString "_law_of")) fd
  gl__law_slants : mg (PySem.Str.ofString "_law_slants") = some (.ref (He.ga K (PySem.Str.ofString "_law_slants")))
  fd__law_slants : ∃ fd, FunD K (PySem.Str.ofString "_law_slants") (PySem.Str.ofString "_law_slants") (defArgs (top 26)) (defBody (top 26)) (defScope (top 26)) [] [] (He.ga K (PySem.Str.ofString "_law_slants")) fd
  gl__law_queens : mg (PySem.Str.ofString "_law_queens") = some (.ref (He.ga K (PySem.Str.ofString "_law_queens")))
  fd__law_queens : ∃ fd, FunD K (PySem.Str.ofString "_law_queens") (PySem.Str.ofString "_law_queens") (defArgs (top 27)) (defBody (top 27)) (defScope (top 27)) [] [] (He.ga K (PySem.Str.ofString "_law_queens")) fd
  gl__law_pauls : mg (PySem.Str.ofString "_law_pauls") = some (.ref (He.ga K (PySem.Str.ofString "_law_pauls")))
  fd__law_pauls : ∃ fd, FunD K (PySem.Str.ofString "_law_pauls") (PySem.Str.ofString "_law_pauls") (defArgs (top 28)) (defBody (top 28)) (defScope (top 28)) [] [] (He.ga K (PySem.Str.ofString "_law_pauls")) fd
  gl__law_bishops_right : mg (PySem.Str.ofString "_law_bishops_right") = some (.ref (He.ga K (PySem.Str.ofString "_law_bishops_right")))
  fd__law_bishops_right : ∃ fd, FunD K (PySem.Str.ofString "_law_bishops_right") (PySem.Str.ofString "_law_bishops_right") (defArgs (top 29)) (defBody (top 29)) (defScope (top 29)) [] [] (He.ga K (PySem.Str.ofString "_law_bishops_right")) fd
  gl__law_squares : mg (PySem.Str.ofString "_law_squares") = some (.ref (He.ga K (PySem.Str.ofString "_law_squares")))
  fd__law_squares : ∃ fd, FunD K (PySem.Str.ofString "_law_squares") (PySem.Str.ofString "_law_squares") (defArgs (top 30)) (defBody (top 30)) (defScope (top 30)) [] [] (He.ga K (PySem.Str.ofString "_law_squares")) fd
  gl__law_blocks_right : mg (PySem.Str.ofString "_law_blocks_right") = some (.ref (He.ga K (PySem.Str.ofString "_law_blocks_right")))
  fd__law_blocks_right : ∃ fd, FunD K (PySem.Str.ofString "_law_blocks_right") (PySem.Str.ofString "_law_blocks_right") (defArgs (top 31)) (defBody (top 31)) (defScope (top 31)) [] [] (He.ga K (PySem.Str.ofString "_law_blocks_right")) fd
  gl__law_queens_right : mg (PySem.Str.ofString "_law_queens_right") = some (.ref (He.ga K (PySem.Str.ofString "_law_queens_right")))
  fd__law_queens_right : ∃ fd, FunD K (PySem.Str.ofString "_law_queens_right") (PySem.Str.ofString "_law_queens_right") (defArgs (top 32)) (defBody (top 32)) (defScope (top 32)) [] [] (He.ga K (PySem.Str.ofString "_law_queens_right")) fd
  gl__law_knights_right : mg (PySem.Str.ofString "_law_knights_right") = some (.ref (He.ga K (PySem.Str.ofString "_law_knights_right")))
  fd__law_knights_right : ∃ fd, FunD K (PySem.Str.ofString "_law_knights_right") (PySem.Str.ofString "_law_knights_right") (defArgs (top 33)) (defBody (top 33)) (defScope (top 33)) [] [] (He.ga K (PySem.Str.ofString "_law_knights_right")) fd
  gl_law : mg (PySem.Str.ofString "law") = some (.ref (He.ga K (PySem.Str.ofString "law")))
  fd_law : ∃ fd, FunD K (PySem.Str.ofString "law") (PySem.Str.ofString "law") (defArgs (top 34)) (defBody (top 34)) (defScope (top 34)) [] [] (He.ga K (PySem.Str.ofString "law")) fd
variable {P : Program} {w : World} {K : PySem.W.Frag} {mg : Str → Option Value} {base : Heap}
/-! ### all_squares -/
theorem sc_all_squares : FnScope [(PySem.Str.ofString "m"), (PySem.Str.ofString "n"), (PySem.Str.ofString "r"), (PySem.Str.ofString "c")] [(PySem.Str.ofString "m"), (PySem.Str.ofString "n")] (defScope (top 2)) := ⟨rfl, rfl, rfl, by decide +kernel, rfl, by decide +kernel, by decide +kernel⟩
def b_all_squares : FS := (fRet (oLc2 4 [2, 3] [3] (iRng1 (lCons (rdV 0) lNil)) (gN 2) bYes (iRng1 (lCons (rdV 1) lNil)) (gN 3) bYes (dTup (aCons (frV 2) (aCons (frV 3) aNil)))))
def F_all_squares : Fn := fnOf 4 b_all_squares
theorem fn_all_squares (hd : Hd w K mg) {fd : FuncData} (Fd : FunD K (PySem.Str.ofString "all_squares") (PySem.Str.ofString "all_squares") (defArgs (top 2)) (defBody (top 2)) (defScope (top 2)) [] [] (He.ga K (PySem.Str.ofString "all_squares")) fd) : FnOk P w K mg base CX0 1 (He.ga K (PySem.Str.ofString "all_squares")) fd [(PySem.Str.ofString "m"), (PySem.Str.ofString "n")] (spP K 2 F_all_squares) := by
  refine fn_ok Fd sc_all_squares rfl rfl fun cdv A outer s H E hr => ?_
  have hu := hr.units
  have hND := sc_all_squares.nd
  exact (s_one (s_ret (d_lc2 (n := 4) [((PySem.Str.ofString "r"), 2), ((PySem.Str.ofString "c"), 3)] [3] rfl hND (i_range1 rfl hd.fr_range (ra_cons (r_var 0) ra_nil)) (blkOk_by (by kernel_rfl)) (by decide) (fun _ _ _ _ _ => (g_name 2 hND)) (fun _ _ _ _ _ => ts_nil) (fun _ _ _ _ _ => (i_range1 rfl hd.fr_range (ra_cons (r_var 1) ra_nil))) (fun _ _ _ _ _ => (g_name 3 hND)) (fun _ _ _ _ _ => ts_nil) (fun _ _ _ _ _ => (d_tup (a_cons (d_var 2) (a_cons (d_var 3) a_nil)))))))
theorem ok_all_squares (hd : Hd w K mg) : Fok P w K mg base 1 (PySem.Str.ofString "all_squares") [(PySem.Str.ofString "m"), (PySem.Str.ofString "n")] (spP K 2 F_all_squares) := by
  obtain ⟨fd, Fd⟩ := hd.fd_all_squares
  exact ⟨⟨fd, fn_all_squares hd Fd, Fd.bindsN fun _ _ _ _ _ _ us hl => match us, hl with | [_, _], _ => rfl⟩, hd.gl_all_squares, Fd.kp⟩
/-! ### how_far -/
theorem sc_how_far : FnScope [(PySem.Str.ofString "piece"), (PySem.Str.ofString "m"), (PySem.Str.ofString "n")] [(PySem.Str.ofString "piece"), (PySem.Str.ofString "m"), (PySem.Str.ofString "n")] (defScope (top 3)) := ⟨rfl, rfl, rfl, by decide +kernel, rfl, by decide +kernel, by decide +kernel⟩
def b_how_far : FS := (fRet (oIf (bO (o2 inA (rdV 0) (dTup (aCons (kO (.str (PySem.Str.ofString "king"))) (aCons (kO (.str (PySem.Str.ofString "knight"))) aNil))))) (kO (.int 1)) (oL (g2 max2O) (lCons (rdV 1) (lCons (rdV 2) lNil)))))
def F_how_far : Fn := fnOf 3 b_how_far
theorem fn_how_far (hd : Hd w K mg) {fd : FuncData} (Fd : FunD K (PySem.Str.ofString "how_far") (PySem.Str.ofString "how_far") (defArgs (top 3)) (defBody (top 3)) (defScope (top 3)) [] [] (He.ga K (PySem.Str.ofString "how_far")) fd) : FnOk P w K mg base CX0 1 (He.ga K (PySem.Str.ofString "how_far")) fd [(PySem.Str.ofString "piece"), (PySem.Str.ofString "m"), (PySem.Str.ofString "n")] (spP K 3 F_how_far) := by
  refine fn_ok Fd sc_how_far rfl rfl fun cdv A outer s H E hr => ?_
  have hu := hr.units
  have hND := sc_how_far.nd
  exact (s_one (s_ret (d_if (t_cmp (op_inB hu) rd_inB (r_var 0) (DP.pr (d_tup (a_cons d_str (a_cons d_str a_nil))))) d_int (d_callB (call_max2 rfl) rd_max2 rfl hd.fr_max boot_max (ra_cons (r_var 1) (ra_cons (r_var 2) ra_nil))))))
theorem ok_how_far (hd : Hd w K mg) : Fok P w K mg base 1 (PySem.Str.ofString "how_far") [(PySem.Str.ofString "piece"), (PySem.Str.ofString "m"), (PySem.Str.ofString "n")] (spP K 3 F_how_far) := by
  obtain ⟨fd, Fd⟩ := hd.fd_how_far
  exact ⟨⟨fd, fn_how_far hd Fd, Fd.bindsN fun _ _ _ _ _ _ us hl => match us, hl with | [_, _, _], _ => rfl⟩, hd.gl_how_far, Fd.kp⟩
/-! ### bishop_number -/
theorem sc_bishop_number : FnScope [(PySem.Str.ofString "n")] [(PySem.Str.ofString "n")] (defScope (top 11)) := ⟨rfl, rfl, rfl, by decide +kernel, rfl, by decide +kernel, by decide +kernel⟩
def b_bishop_number : FS := (fRet (frV 0))
def F_bishop_number : Fn := fnOf 1 b_bishop_number
theorem fn_bishop_number (hd : Hd w K mg) {fd : FuncData} (Fd : FunD K (PySem.Str.ofString "bishop_number") (PySem.Str.ofString "bishop_number") (defArgs (top 11)) (defBody (top 11)) (defScope (top 11)) [] [] (He.ga K (PySem.Str.ofString "bishop_number")) fd) : FnOk P w K mg base CX0 1 (He.ga K (PySem.Str.ofString "bishop_number")) fd [(PySem.Str.ofString "n")] (spP K 1 F_bishop_number) := by
  refine fn_ok Fd sc_bishop_number rfl rfl fun cdv A outer s H E hr => ?_
  have hu := hr.units
  have hND := sc_bishop_number.nd
  exact (s_one (s_ret (d_var 0)))
theorem ok_bishop_number (hd : Hd w K mg) : Fok P w K mg base 1 (PySem.Str.ofString "bishop_number") [(PySem.Str.ofString "n")] (spP K 1 F_bishop_number) := by
  obtain ⟨fd, Fd⟩ := hd.fd_bishop_number
  exact ⟨⟨fd, fn_bishop_number hd Fd, Fd.bindsN fun _ _ _ _ _ _ us hl => match us, hl with | [_], _ => rfl⟩, hd.gl_bishop_number, Fd.kp⟩
/-! ### bishop_peace -/
theorem sc_bishop_peace : FnScope [(PySem.Str.ofString "n")] [(PySem.Str.ofString "n")] (defScope (top 12)) := ⟨rfl, rfl, rfl, by decide +kernel, rfl, by decide +kernel, by decide +kernel⟩
def b_bishop_peace : FS := (fRet (oIf (bO (o2 gtA (rdV 0) (kO (.int 1)))) (o2 subI (o2 mulO (kO (.int 2)) (rdV 0)) (kO (.int 2))) (kO (.int 1))))
def F_bishop_peace : Fn := fnOf 1 b_bishop_peace
theorem fn_bishop_peace (hd : Hd w K mg) {fd : FuncData} (Fd : FunD K (PySem.Str.ofString "bishop_peace") (PySem.Str.ofString "bishop_peace") (defArgs (top 12)) (defBody (top 12)) (defScope (top 12)) [] [] (He.ga K (PySem.Str.ofString "bishop_peace")) fd) : FnOk P w K mg base CX0 1 (He.ga K (PySem.Str.ofString "bishop_peace")) fd [(PySem.Str.ofString "n")] (spP K 1 F_bishop_peace) := by
  refine fn_ok Fd sc_bishop_peace rfl rfl fun cdv A outer s H E hr => ?_
  have hu := hr.units
  have hND := sc_bishop_peace.nd
  exact (s_one (s_ret (d_if (t_cmp (op_gtA hu) rd_gtA (r_var 0) (DP.pr d_int)) (d_op2 op_sub rd_sub (DP.pr (d_op2 op_mulO rd_mulO (DP.pr d_int) (r_var 0))) (DP.pr d_int)) d_int)))
theorem ok_bishop_peace (hd : Hd w K mg) : Fok P w K mg base 1 (PySem.Str.ofString "bishop_peace") [(PySem.Str.ofString "n")] (spP K 1 F_bishop_peace) := by
  obtain ⟨fd, Fd⟩ := hd.fd_bishop_peace
  exact ⟨⟨fd, fn_bishop_peace hd Fd, Fd.bindsN fun _ _ _ _ _ _ us hl => match us, hl with | [_], _ => rfl⟩, hd.gl_bishop_peace, Fd.kp⟩
/-! ### told_bishops -/
theorem sc_told_bishops : FnScope [(PySem.Str.ofString "n"), (PySem.Str.ofString "r")] [(PySem.Str.ofString "n")] (defScope (top 13)) := ⟨rfl, rfl, rfl, by decide +kernel, rfl, by decide +kernel, by decide +kernel⟩
def b_told_bishops : FS := (fRet (oL (g1 tupO) (lCons (oLc 2 [1] (iRng1 (lCons (rdV 0) lNil)) (gN 1) bYes (dTup (aCons (frV 1) (aCons (o2 divI (rdV 0) (kO (.int 2))) aNil)))) lNil)))
def F_told_bishops : Fn := fnOf 2 b_told_bishops
theorem fn_told_bishops (hd : Hd w K mg) {fd : FuncData} (Fd : FunD K (PySem.Str.ofString "told_bishops") (PySem.Str.ofString "told_bishops") (defArgs (top 13)) (defBody (top 13)) (defScope (top 13)) [] [] (He.ga K (PySem.Str.ofString "told_bishops")) fd) : FnOk P w K mg base CX0 1 (He.ga K (PySem.Str.ofString "told_bishops")) fd [(PySem.Str.ofString "n")] (spP K 1 F_told_bishops) := by
  refine fn_ok Fd sc_told_bishops rfl rfl fun cdv A outer s H E hr => ?_
  have hu := hr.units
  have hND := sc_told_bishops.nd
  exact (s_one (s_ret (d_callTy call_tuple_of rd_tuple rfl hd.fr_tuple boot_tuple (ra_cons (DP.pr (d_lc (n := 2) [((PySem.Str.ofString "r"), 1)] rfl hND (i_range1 rfl hd.fr_range (ra_cons (r_var 0) ra_nil)) (blkOk_by (by kernel_rfl)) (fun _ _ _ _ _ => (g_name 1 hND)) (fun _ _ _ _ _ => ts_nil) (fun _ _ _ _ _ => (d_tup (a_cons (d_var 1) (a_cons (d_op2 op_fdiv rd_div (r_var 0) (DP.pr d_int)) a_nil)))))) ra_nil))))
theorem ok_told_bishops (hd : Hd w K mg) : Fok P w K mg base 1 (PySem.Str.ofString "told_bishops") [(PySem.Str.ofString "n")] (spP K 1 F_told_bishops) := by
  obtain ⟨fd, Fd⟩ := hd.fd_told_bishops
  exact ⟨⟨fd, fn_told_bishops hd Fd, Fd.bindsN fun _ _ _ _ _ _ us hl => match us, hl with | [_], _ => rfl⟩, hd.gl_told_bishops, Fd.kp⟩
/-! ### told_bishop_peace -/
theorem sc_told_bishop_peace : FnScope [(PySem.Str.ofString "n"), (PySem.Str.ofString "c")] [(PySem.Str.ofString "n")] (defScope (top 14)) := ⟨rfl, rfl, rfl, by decide +kernel, rfl, by decide +kernel, by decide +kernel⟩
def b_told_bishop_peace : FS := (fRet (oL (g1 tupO) (lCons (dLst (aStar (oLc 2 [1] (iRng1 (lCons (rdV 0) lNil)) (gN 1) bYes (dTup (aCons (kO (.int 0)) (aCons (frV 1) aNil)))) (aStar (oLc 2 [1] (iRng2 (lCons (kO (.int 1)) (lCons (o2 subI (rdV 0) (kO (.int 1))) lNil))) (gN 1) bYes (dTup (aCons (o2 subI (rdV 0) (kO (.int 1))) (aCons (frV 1) aNil)))) aNil))) lNil)))
def F_told_bishop_peace : Fn := fnOf 2 b_told_bishop_peace
theorem fn_told_bishop_peace (hd : Hd w K mg) {fd : FuncData} (Fd : FunD K (PySem.Str.ofString "told_bishop_peace") (PySem.Str.ofString "told_bishop_peace") (defArgs (top 14)) (defBody (top 14)) (defScope (top 14)) [] [] (He.ga K (PySem.Str.ofString "told_bishop_peace")) fd) : FnOk P w K mg base CX0 1 (He.ga K (PySem.Str.ofString "told_bishop_peace")) fd [(PySem.Str.ofString "n")] (spP K 1 F_told_bishop_peace) := by
  refine fn_ok Fd sc_told_bishop_peace rfl rfl fun cdv A outer s H E hr => ?_
  have hu := hr.units
  have hND := sc_told_bishop_peace.nd
  exact (s_one (s_ret (d_callTy call_tuple_of rd_tuple rfl hd.fr_tuple boot_tuple (ra_cons (DP.pr (d_lst (a_star (DP.pr (d_lc (n := 2) [((PySem.Str.ofString "c"), 1)] rfl hND (i_range1 rfl hd.fr_range (ra_cons (r_var 0) ra_nil)) (blkOk_by (by kernel_rfl)) (fun _ _ _ _ _ => (g_name 1 hND)) (fun _ _ _ _ _ => ts_nil) (fun _ _ _ _ _ => (d_tup (a_cons d_int (a_cons (d_var 1) a_nil)))))) (a_star (DP.pr (d_lc (n := 2) [((PySem.Str.ofString "c"), 1)] rfl hND (i_range2 rfl hd.fr_range (ra_cons (DP.pr d_int) (ra_cons (DP.pr (d_op2 op_sub rd_sub (r_var 0) (DP.pr d_int))) ra_nil))) (blkOk_by (by kernel_rfl)) (fun _ _ _ _ _ => (g_name 1 hND)) (fun _ _ _ _ _ => ts_nil) (fun _ _ _ _ _ => (d_tup (a_cons (d_op2 op_sub rd_sub (r_var 0) (DP.pr d_int)) (a_cons (d_var 1) a_nil)))))) a_nil)))) ra_nil))))
theorem ok_told_bishop_peace (hd : Hd w K mg) : Fok P w K mg base 1 (PySem.Str.ofString "told_bishop_peace") [(PySem.Str.ofString "n")] (spP K 1 F_told_bishop_peace) := by
  obtain ⟨fd, Fd⟩ := hd.fd_told_bishop_peace
  exact ⟨⟨fd, fn_told_bishop_peace hd Fd, Fd.bindsN fun _ _ _ _ _ _ us hl => match us, hl with | [_], _ => rfl⟩, hd.gl_told_bishop_peace, Fd.kp⟩
/-! ### bishop_block -/
theorem sc_bishop_block : FnScope [(PySem.Str.ofString "n"), (PySem.Str.ofString "a"), (PySem.Str.ofString "found"), (PySem.Str.ofString "u"), (PySem.Str.ofString "v")] [(PySem.Str.ofString "n"), (PySem.Str.ofString "a")] (defScope (top 15)) := ⟨rfl, rfl, rfl, by decide +kernel, rfl, by decide +kernel, by decide +kernel⟩
def b_bishop_block : FS := (fSeq (fSet 2 (dLst aNil)) (fSeq (fAcc 2) (fSeq (fFor (iRng3 (lCons (o2 subI (o2 subI (rdV 0) (kO (.int 1))) (rdV 1)) (lCons (o2 addO (rdV 0) (rdV 1)) (lCons (kO (.int 2)) lNil)))) (gN 3) (fExt 2 (oLc 5 [4] (iRng3 (lCons (o2 addO (o2 subI (rdV 1) (rdV 0)) (kO (.int 1))) (lCons (o2 subI (rdV 0) (rdV 1)) (lCons (kO (.int 2)) lNil)))) (gN 4) bYes (dTup (aCons (o2 divI (o2 addO (rdV 3) (rdV 4)) (kO (.int 2))) (aCons (o2 divI (o2 subI (rdV 3) (rdV 4)) (kO (.int 2))) aNil)))))) (fRet (oL (g1 tupO) (lCons (oL (g1 sortA) (lCons (rdV 2) lNil)) lNil))))))
def F_bishop_block : Fn := fnOf 5 b_bishop_block
theorem fn_bishop_block (hd : Hd w K mg) {fd : FuncData} (Fd : FunD K (PySem.Str.ofString "bishop_block") (PySem.Str.ofString "bishop_block") (defArgs (top 15)) (defBody (top 15)) (defScope (top 15)) [] [] (He.ga K (PySem.Str.ofString "bishop_block")) fd) : FnOk P w K mg base CX0 1 (He.ga K (PySem.Str.ofString "bishop_block")) fd [(PySem.Str.ofString "n"), (PySem.Str.ofString "a")] (spP K 2 F_bishop_block) := by
  refine fn_ok Fd sc_bishop_block rfl rfl fun cdv A outer s H E hr => ?_
  have hu := hr.units
  have hND := sc_bishop_block.nd
  exact (s_cons (s_set 2 hND (d_lst a_nil)) (s_acc 2 (s_cons (s_for PassesOwn.never rfl (i_range3 rfl hd.fr_range (ra_cons (DP.pr (d_op2 op_sub rd_sub (DP.pr (d_op2 op_sub rd_sub (r_var 0) (DP.pr d_int))) (r_var 1))) (ra_cons (DP.pr (d_op2 op_addO rd_addO (r_var 0) (r_var 1))) (ra_cons (DP.pr d_int) ra_nil)))) (g_name 3 hND) (s_one (s_extend 2 (d_lc (n := 5) [((PySem.Str.ofString "v"), 4)] rfl hND (i_range3 rfl hd.fr_range (ra_cons (DP.pr (d_op2 op_addO rd_addO (DP.pr (d_op2 op_sub rd_sub (r_var 1) (r_var 0))) (DP.pr d_int))) (ra_cons (DP.pr (d_op2 op_sub rd_sub (r_var 0) (r_var 1))) (ra_cons (DP.pr d_int) ra_nil)))) (blkOk_by (by kernel_rfl)) (fun _ _ _ _ _ => (g_name 4 hND)) (fun _ _ _ _ _ => ts_nil) (fun _ _ _ _ _ => (d_tup (a_cons (d_op2 op_fdiv rd_div (DP.pr (d_op2 op_addO rd_addO (r_var 3) (r_var 4))) (DP.pr d_int)) (a_cons (d_op2 op_fdiv rd_div (DP.pr (d_op2 op_sub rd_sub (r_var 3) (r_var 4))) (DP.pr d_int)) a_nil)))))))) (s_one (s_ret (d_callTy call_tuple_of rd_tuple rfl hd.fr_tuple boot_tuple (ra_cons (DP.pr (d_callB (op_sortAll rfl hu) rd_sortAll rfl hd.fr_sorted boot_sorted (ra_cons (r_var 2) ra_nil))) ra_nil)))))))
theorem ok_bishop_block (hd : Hd w K mg) : Fok P w K mg base 1 (PySem.Str.ofString "bishop_block") [(PySem.Str.ofString "n"), (PySem.Str.ofString "a")] (spP K 2 F_bishop_block) := by
  obtain ⟨fd, Fd⟩ := hd.fd_bishop_block
  exact ⟨⟨fd, fn_bishop_block hd Fd, Fd.bindsN fun _ _ _ _ _ _ us hl => match us, hl with | [_, _], _ => rfl⟩, hd.gl_bishop_block, Fd.kp⟩
/-! ### sign_bounds -/
theorem sc_sign_bounds : FnScope [(PySem.Str.ofString "n"), (PySem.Str.ofString "found"), (PySem.Str.ofString "a"), (PySem.Str.ofString "sign")] [(PySem.Str.ofString "n")] (defScope (top 16)) := ⟨rfl, rfl, rfl, by decide +kernel, rfl, by decide +kernel, by decide +kernel⟩
def b_sign_bounds : FS := (fSeq (fSet 1 (dLst (aCons (kO (.int 0)) (aCons (kO (.int 0)) aNil)))) (fSeq (fFor (iRng1 (lCons (rdV 0) lNil)) (gN 2) (fSeq (fSet 3 (o2 modI (o2 subI (o2 subI (rdV 0) (kO (.int 1))) (rdV 2)) (kO (.int 2)))) (fPutA 1 (rdV 3) (oL (g2 max2O) (lCons (o2 ixA (rdV 1) (rdV 3)) (lCons (oL (g2 min2O) (lCons (o2 addO (rdV 2) (kO (.int 1))) (lCons (o2 subI (rdV 0) (rdV 2)) lNil))) lNil)))))) (fRet (oL (g1 tupO) (lCons (rdV 1) lNil)))))
def F_sign_bounds : Fn := fnOf 4 b_sign_bounds
theorem fn_sign_bounds (hd : Hd w K mg) {fd : FuncData} (Fd : FunD K (PySem.Str.ofString "sign_bounds") (PySem.Str.ofString "sign_bounds") (defArgs (top 16)) (defBody (top 16)) (defScope (top 16)) [] [] (He.ga K (PySem.Str.ofString "sign_bounds")) fd) : FnOk P w K mg base CX0 1 (He.ga K (PySem.Str.ofString "sign_bounds")) fd [(PySem.Str.ofString "n")] (spP K 1 F_sign_bounds) := by
  refine fn_ok Fd sc_sign_bounds rfl rfl fun cdv A outer s H E hr => ?_
  have hu := hr.units
  have hND := sc_sign_bounds.nd
  exact (s_cons (s_set 1 hND (d_lst (a_cons d_int (a_cons d_int a_nil)))) (s_cons (s_for PassesOwn.never rfl (i_range1 rfl hd.fr_range (ra_cons (r_var 0) ra_nil)) (g_name 2 hND) (s_cons (s_set 3 hND (d_op2 op_mod rd_mod (DP.pr (d_op2 op_sub rd_sub (DP.pr (d_op2 op_sub rd_sub (r_var 0) (DP.pr d_int))) (r_var 2))) (DP.pr d_int))) (s_one (s_put 1 hu (d_callB (call_max2 rfl) rd_max2 rfl hd.fr_max boot_max (ra_cons (d_ixR hu (r_var 1) (r_var 3)) (ra_cons (DP.pr (d_callB (call_min2 rfl) rd_min2 rfl hd.fr_min boot_min (ra_cons (DP.pr (d_op2 op_addO rd_addO (r_var 2) (DP.pr d_int))) (ra_cons (DP.pr (d_op2 op_sub rd_sub (r_var 0) (r_var 2))) ra_nil)))) ra_nil))) (r_var 3))))) (s_one (s_ret (d_callTy call_tuple_of rd_tuple rfl hd.fr_tuple boot_tuple (ra_cons (r_var 1) ra_nil))))))
theorem ok_sign_bounds (hd : Hd w K mg) : Fok P w K mg base 1 (PySem.Str.ofString "sign_bounds") [(PySem.Str.ofString "n")] (spP K 1 F_sign_bounds) := by
  obtain ⟨fd, Fd⟩ := hd.fd_sign_bounds
  exact ⟨⟨fd, fn_sign_bounds hd Fd, Fd.bindsN fun _ _ _ _ _ _ us hl => match us, hl with | [_], _ => rfl⟩, hd.gl_sign_bounds, Fd.kp⟩
/-! ### king_peace -/
theorem sc_king_peace : FnScope [(PySem.Str.ofString "m"), (PySem.Str.ofString "n")] [(PySem.Str.ofString "m"), (PySem.Str.ofString "n")] (defScope (top 18)) := ⟨rfl, rfl, rfl, by decide +kernel, rfl, by decide +kernel, by decide +kernel⟩
def b_king_peace : FS := (fRet (o2 mulO (o2 divI (o2 addO (rdV 0) (kO (.int 1))) (kO (.int 2))) (o2 divI (o2 addO (rdV 1) (kO (.int 1))) (kO (.int 2)))))
def F_king_peace : Fn := fnOf 2 b_king_peace
theorem fn_king_peace (hd : Hd w K mg) {fd : FuncData} (Fd : FunD K (PySem.Str.ofString "king_peace") (PySem.Str.ofString "king_peace") (defArgs (top 18)) (defBody (top 18)) (defScope (top 18)) [] [] (He.ga K (PySem.Str.ofString "king_peace")) fd) : FnOk P w K mg base CX0 1 (He.ga K (PySem.Str.ofString "king_peace")) fd [(PySem.Str.ofString "m"), (PySem.Str.ofString "n")] (spP K 2 F_king_peace) := by
  refine fn_ok Fd sc_king_peace rfl rfl fun cdv A outer s H E hr => ?_
  have hu := hr.units
  have hND := sc_king_peace.nd
  exact (s_one (s_ret (d_op2 op_mulO rd_mulO (DP.pr (d_op2 op_fdiv rd_div (DP.pr (d_op2 op_addO rd_addO (r_var 0) (DP.pr d_int))) (DP.pr d_int))) (DP.pr (d_op2 op_fdiv rd_div (DP.pr (d_op2 op_addO rd_addO (r_var 1) (DP.pr d_int))) (DP.pr d_int))))))
theorem ok_king_peace (hd : Hd w K mg) : Fok P w K mg base 1 (PySem.Str.ofString "king_peace") [(PySem.Str.ofString "m"), (PySem.Str.ofString "n")] (spP K 2 F_king_peace) := by
  obtain ⟨fd, Fd⟩ := hd.fd_king_peace
  exact ⟨⟨fd, fn_king_peace hd Fd, Fd.bindsN fun _ _ _ _ _ _ us hl => match us, hl with | [_, _], _ => rfl⟩, hd.gl_king_peace, Fd.kp⟩
/-! ### places_by -/
theorem sc_places_by : FnScope [(PySem.Str.ofString "step"), (PySem.Str.ofString "start"), (PySem.Str.ofString "n"), (PySem.Str.ofString "found"), (PySem.Str.ofString "i")] [(PySem.Str.ofString "step"), (PySem.Str.ofString "start"), (PySem.Str.ofString "n")] (defScope (top 19)) := ⟨rfl, rfl, rfl, by decide +kernel, rfl, by decide +kernel, by decide +kernel⟩
def b_places_by : FS := (fSeq (fSet 3 (dLst aNil)) (fSeq (fAcc 3) (fSeq (fFor (iRng1 (lCons (o2 divI (o2 subI (o2 addO (rdV 2) (rdV 0)) (kO (.int 1))) (rdV 0)) lNil)) (gN 4) (fApp 3 (oL (g2 min2O) (lCons (o2 addO (o2 mulO (rdV 0) (rdV 4)) (rdV 1)) (lCons (o2 subI (rdV 2) (kO (.int 1))) lNil))))) (fSeq (fFz 3) (fRet (frV 3))))))
def F_places_by : Fn := fnOf 5 b_places_by
theorem fn_places_by (hd : Hd w K mg) {fd : FuncData} (Fd : FunD K (PySem.Str.ofString "places_by") (PySem.Str.ofString "places_by") (defArgs (top 19)) (defBody (top 19)) (defScope (top 19)) [] [] (He.ga K (PySem.Str.ofString "places_by")) fd) : FnOk P w K mg base CX0 1 (He.ga K (PySem.Str.ofString "places_by")) fd [(PySem.Str.ofString "step"), (PySem.Str.ofString "start"), (PySem.Str.ofString "n")] (spP K 3 F_places_by) := by
  refine fn_ok Fd sc_places_by rfl rfl fun cdv A outer s H E hr => ?_
  have hu := hr.units
  have hND := sc_places_by.nd
  exact (s_cons (s_set 3 hND (d_lst a_nil)) (s_acc 3 (s_cons (s_for PassesOwn.never rfl (i_range1 rfl hd.fr_range (ra_cons (DP.pr (d_op2 op_fdiv rd_div (DP.pr (d_op2 op_sub rd_sub (DP.pr (d_op2 op_addO rd_addO (r_var 2) (r_var 0))) (DP.pr d_int))) (r_var 0))) ra_nil)) (g_name 4 hND) (s_one (s_append 3 (d_callB (call_min2 rfl) rd_min2 rfl hd.fr_min boot_min (ra_cons (DP.pr (d_op2 op_addO rd_addO (DP.pr (d_op2 op_mulO rd_mulO (r_var 0) (r_var 4))) (r_var 1))) (ra_cons (DP.pr (d_op2 op_sub rd_sub (r_var 2) (DP.pr d_int))) ra_nil)))))) (s_fz 3 (s_one (s_ret (d_var 3)))))))
theorem ok_places_by (hd : Hd w K mg) : Fok P w K mg base 1 (PySem.Str.ofString "places_by") [(PySem.Str.ofString "step"), (PySem.Str.ofString "start"), (PySem.Str.ofString "n")] (spP K 3 F_places_by) := by
  obtain ⟨fd, Fd⟩ := hd.fd_places_by
  exact ⟨⟨fd, fn_places_by hd Fd, Fd.bindsN fun _ _ _ _ _ _ us hl => match us, hl with | [_, _, _], _ => rfl⟩, hd.gl_places_by, Fd.kp⟩
/-! ### squares_by -/
theorem sc_squares_by : FnScope [(PySem.Str.ofString "rows"), (PySem.Str.ofString "columns"), (PySem.Str.ofString "r"), (PySem.Str.ofString "c")] [(PySem.Str.ofString "rows"), (PySem.Str.ofString "columns")] (defScope (top 20)) := ⟨rfl, rfl, rfl, by decide +kernel, rfl, by decide +kernel, by decide +kernel⟩
def b_squares_by : FS := (fRet (oL (g1 tupO) (lCons (oLc2 4 [2, 3] [3] (iSeq (frV 0)) (gN 2) bYes (iSeq (frV 1)) (gN 3) bYes (dTup (aCons (frV 2) (aCons (frV 3) aNil)))) lNil)))
def F_squares_by : Fn := fnOf 4 b_squares_by
theorem fn_squares_by (hd : Hd w K mg) {fd : FuncData} (Fd : FunD K (PySem.Str.ofString "squares_by") (PySem.Str.ofString "squares_by") (defArgs (top 20)) (defBody (top 20)) (defScope (top 20)) [] [] (He.ga K (PySem.Str.ofString "squares_by")) fd) : FnOk P w K mg base CX0 1 (He.ga K (PySem.Str.ofString "squares_by")) fd [(PySem.Str.ofString "rows"), (PySem.Str.ofString "columns")] (spP K 2 F_squares_by) := by
  refine fn_ok Fd sc_squares_by rfl rfl fun cdv A outer s H E hr => ?_
  have hu := hr.units
  have hND := sc_squares_by.nd
  exact (s_one (s_ret (d_callTy call_tuple_of rd_tuple rfl hd.fr_tuple boot_tuple (ra_cons (DP.pr (d_lc2 (n := 4) [((PySem.Str.ofString "r"), 2), ((PySem.Str.ofString "c"), 3)] [3] rfl hND (i_seq (d_var 0)) (blkOk_by (by kernel_rfl)) (by decide) (fun _ _ _ _ _ => (g_name 2 hND)) (fun _ _ _ _ _ => ts_nil) (fun _ _ _ _ _ => (i_seq (d_var 1))) (fun _ _ _ _ _ => (g_name 3 hND)) (fun _ _ _ _ _ => ts_nil) (fun _ _ _ _ _ => (d_tup (a_cons (d_var 2) (a_cons (d_var 3) a_nil)))))) ra_nil))))
theorem ok_squares_by (hd : Hd w K mg) : Fok P w K mg base 1 (PySem.Str.ofString "squares_by") [(PySem.Str.ofString "rows"), (PySem.Str.ofString "columns")] (spP K 2 F_squares_by) := by
  obtain ⟨fd, Fd⟩ := hd.fd_squares_by
  exact ⟨⟨fd, fn_squares_by hd Fd, Fd.bindsN fun _ _ _ _ _ _ us hl => match us, hl with | [_, _], _ => rfl⟩, hd.gl_squares_by, Fd.kp⟩
/-! ### _law_source -/
theorem sc__law_source : FnScope [(PySem.Str.ofString "script"), (PySem.Str.ofString "mixed"), (PySem.Str.ofString "cell")] [(PySem.Str.ofString "script")] (defScope (top 23)) := ⟨rfl, rfl, rfl, by decide +kernel, rfl, by decide +kernel, by decide +kernel⟩
def b__law_source : FS := (fSeq (fSet 1 (kO (.int 83))) (fSeq (fFor (iScr 0) (gN 2) (fSet 1 (o2 modI (oL (g1 intO) (lCons (o2 addO (o2 addO (o2 mulO (rdV 1) (kO (.int 40503))) (o2 mulO (rdV 2) (kO (.int 59)))) (kO (.int 23))) lNil)) (kO (.int 2147483629))))) (fRet (dSrc (o1 revO (oLc 3 [2] (iScr 0) (gN 2) bYes (oL (g1 absO) (lCons (rdV 2) lNil)))) (kO (.int 1)) (frV 1) (kO (.int 0))))))
def F__law_source : FnB := fnOfB 3 b__law_source
theorem fn__law_source (hd : Hd w K mg) {fd : FuncData} (Fd : FunD K (PySem.Str.ofString "_law_source") (PySem.Str.ofString "_law_source") (defArgs (top 23)) (defBody (top 23)) (defScope (top 23)) [] [] (He.ga K (PySem.Str.ofString "_law_source")) fd) : FnOk P w K mg base CX0 1 (He.ga K (PySem.Str.ofString "_law_source")) fd [(PySem.Str.ofString "script")] (spB K 0 F__law_source) := by
  refine fn_okB Fd sc__law_source rfl rfl fun cdv A outer s H E hr => ?_
  have hu := hr.units
  have hND := sc__law_source.nd
  exact (s_cons (s_set 1 hND d_int) (s_cons (s_for PassesOwn.never rfl (i_scr 0) (g_name 2 hND) (s_one (s_set 1 hND (d_op2 op_mod rd_mod (DP.pr (d_callTy call_int1 rd_int rfl hd.fr_int boot_int (ra_cons (DP.pr (d_op2 op_addO rd_addO (DP.pr (d_op2 op_addO rd_addO (DP.pr (d_op2 op_mulO rd_mulO (r_var 1) (DP.pr d_int))) (DP.pr (d_op2 op_mulO rd_mulO (r_var 2) (DP.pr d_int))))) (DP.pr d_int))) ra_nil))) (DP.pr d_int))))) (s_one (s_ret (d_src (d_rev (DP.pr (d_lc (n := 3) [((PySem.Str.ofString "cell"), 2)] rfl hND (i_scr 0) (blkOk_by (by kernel_rfl)) (fun _ _ _ _ _ => (g_name 2 hND)) (fun _ _ _ _ _ => ts_nil) (fun _ _ _ _ _ => (d_callB call_abs rd_abs rfl hd.fr_abs boot_abs (ra_cons (r_var 2) ra_nil)))))) d_int (d_var 1) d_int)))))
theorem ok__law_source (hd : Hd w K mg) : Fok P w K mg base 1 (PySem.Str.ofString "_law_source") [(PySem.Str.ofString "script")] (spB K 0 F__law_source) := by
  obtain ⟨fd, Fd⟩ := hd.fd__law_source
  exact ⟨⟨fd, fn__law_source hd Fd, Fd.bindsN fun _ _ _ _ _ _ us hl => match us, hl with | [_], _ => rfl⟩, hd.gl__law_source, Fd.kp⟩
/-! ### _law_pick -/
theorem sc__law_pick : FnScope [(PySem.Str.ofString "source"), (PySem.Str.ofString "many"), (PySem.Str.ofString "left"), (PySem.Str.ofString "mixed")] [(PySem.Str.ofString "source"), (PySem.Str.ofString "many")] (defScope (top 24)) := ⟨rfl, rfl, rfl, by decide +kernel, rfl, by decide +kernel, by decide +kernel⟩
def b__law_pick : FS := (fSeq (fIf (bO (o2 ltA (rdV 1) (kO (.int 2)))) (fRet (kO (.int 0))) fNx) (fSeq (fWh (fuelS 0) (bAnd (bO (o2 ltA (srcI 0 .left) (kO (.int 2)))) (bO (o2 gtA (oL (g1 lenA) (lCons (srcC 0) lNil)) (kO (.int 0))))) (fSrcPop 0)) (fSeq (fSet 2 (srcI 0 .left)) (fSeq (fIf (bO (o2 gtA (rdV 2) (kO (.int 1)))) (fSeq (fSrcSet 0 .left (o2 divI (rdV 2) (rdV 1))) (fRet (o2 modI (oL (g1 intO) (lCons (rdV 2) lNil)) (rdV 1)))) fNx) (fSeq (fSrcSet 0 .turn (o2 addO (srcI 0 .turn) (kO (.int 1)))) (fSeq (fSet 3 (o2 modI (oL (g1 intO) (lCons (o2 addO (srcI 0 .mixed) (o2 mulO (srcI 0 .turn) (kO (.int 104729)))) lNil)) (kO (.int 998244353)))) (fSeq (fSet 3 (o2 modI (oL (g1 intO) (lCons (o2 addO (o2 mulO (rdV 3) (rdV 3)) (o2 mulO (srcI 0 .turn) (kO (.int 17)))) lNil)) (kO (.int 2147483647)))) (fSeq (fSrcSet 0 .mixed (frV 3)) (fRet (o2 modI (oL (g1 intO) (lCons (o2 divI (rdV 3) (kO (.int 16))) lNil)) (rdV 1)))))))))))
def F__law_pick : FnB := fnOfB 4 b__law_pick
theorem fn__law_pick (hd : Hd w K mg) {fd : FuncData} (Fd : FunD K (PySem.Str.ofString "_law_pick") (PySem.Str.ofString "_law_pick") (defArgs (top 24)) (defBody (top 24)) (defScope (top 24)) [] [] (He.ga K (PySem.Str.ofString "_law_pick")) fd) : FnOk P w K mg base CX0 1 (He.ga K (PySem.Str.ofString "_law_pick")) fd [(PySem.Str.ofString "source"), (PySem.Str.ofString "many")] (spB K 1 F__law_pick) := by
  refine fn_okB Fd sc__law_pick rfl rfl fun cdv A outer s H E hr => ?_
  have hu := hr.units
  have hND := sc__law_pick.nd
  exact (s_cons (s_if (t_cmp (op_ltA hu) rd_ltA (r_var 1) (DP.pr d_int)) (s_one (s_ret d_int)) s_nil) (s_cons (s_while (fuelS 0) PassesOwn.never (t_w (w_and (t_cmp (op_ltA hu) rd_ltA (DP.pr (d_srcI 0 .left hu)) (DP.pr d_int)) (w_and1 (t_cmp (op_gtA hu) rd_gtA (DP.pr (d_callB op_lenA rd_lenA rfl hd.fr_len PySem.boot_len (ra_cons (r_srcC 0 hu) ra_nil))) (DP.pr d_int))))) (s_one (s_srcPop 0 hu))) (s_cons (s_set 2 hND (d_srcI 0 .left hu)) (s_cons (s_if (t_cmp (op_gtA hu) rd_gtA (r_var 2) (DP.pr d_int)) (s_cons (s_srcSet 0 .left hu (d_op2 op_fdiv rd_div (r_var 2) (r_var 1))) (s_one (s_ret (d_op2 op_mod rd_mod (DP.pr (d_callTy call_int1 rd_int rfl hd.fr_int boot_int (ra_cons (r_var 2) ra_nil))) (r_var 1))))) s_nil) (s_cons (s_srcSet 0 .turn hu (d_op2 op_addO rd_addO (DP.pr (d_srcI 0 .turn hu)) (DP.pr d_int))) (s_cons (s_set 3 hND (d_op2 op_mod rd_mod (DP.pr (d_callTy call_int1 rd_int rfl hd.fr_int boot_int (ra_cons (DP.pr (d_op2 op_addO rd_addO (DP.pr (d_srcI 0 .mixed hu)) (DP.pr (d_op2 op_mulO rd_mulO (DP.pr (d_srcI 0 .turn hu)) (DP.pr d_int))))) ra_nil))) (DP.pr d_int))) (s_cons (s_set 3 hND (d_op2 op_mod rd_mod (DP.pr (d_callTy call_int1 rd_int rfl hd.fr_int boot_int (ra_cons (DP.pr (d_op2 op_addO rd_addO (DP.pr (d_op2 op_mulO rd_mulO (r_var 3) (r_var 3))) (DP.pr (d_op2 op_mulO rd_mulO (DP.pr (d_srcI 0 .turn hu)) (DP.pr d_int))))) ra_nil))) (DP.pr d_int))) (s_cons (s_srcSet 0 .mixed hu (d_var 3)) (s_one (s_ret (d_op2 op_mod rd_mod (DP.pr (d_callTy call_int1 rd_int rfl hd.fr_int boot_int (ra_cons (DP.pr (d_op2 op_fdiv rd_div (r_var 3) (DP.pr d_int))) ra_nil))) (r_var 1))))))))))))
theorem ok__law_pick (hd : Hd w K mg) : Fok P w K mg base 1 (PySem.Str.ofString "_law_pick") [(PySem.Str.ofString "source"), (PySem.Str.ofString "many")] (spB K 1 F__law_pick) := by
  obtain ⟨fd, Fd⟩ := hd.fd__law_pick
  exact ⟨⟨fd, fn__law_pick hd Fd, Fd.bindsN fun _ _ _ _ _ _ us hl => match us, hl with | [_, _], _ => rfl⟩, hd.gl__law_pick, Fd.kp⟩
/-! ### _law_slants -/
theorem sc__law_slants : FnScope [(PySem.Str.ofString "n"), (PySem.Str.ofString "many"), (PySem.Str.ofString "limit"), (PySem.Str.ofString "found"), (PySem.Str.ofString "line"), (PySem.Str.ofString "s"), (PySem.Str.ofString "late"), (PySem.Str.ofString "lot"), (PySem.Str.ofString "used"), (PySem.Str.ofString "gaps"), (PySem.Str.ofString "r"), (PySem.Str.ofString "d")] [(PySem.Str.ofString "n"), (PySem.Str.ofString "many"), (PySem.Str.ofString "limit")] (defScope (top 26)) := ⟨rfl, rfl, rfl, by decide +kernel, rfl, by decide +kernel, by decide +kernel⟩
def lb0__law_slants : FS := (fSeq (fSet 11 (o2 subI (o2 mulO (kO (.int 2)) (rdV 10)) (rdV 5))) (fIf (bO (o2 niA (rdV 11) (rdV 8))) (fApp 6 (dTup (aCons (o2 addO (rdV 7) (dTup (aCons (dTup (aCons (frV 10) (aCons (o2 subI (rdV 5) (rdV 10)) aNil))) aNil))) (aCons (o2 addO (rdV 8) (dTup (aCons (frV 11) aNil))) (aCons (frV 9) aNil))))) fNx))
def lg0__law_slants : FT := (gN 10)
def lb1__law_slants : FS := (fSeq (fIf (bO (o2 ltA (rdV 9) (rdV 2))) (fApp 6 (dTup (aCons (frV 7) (aCons (frV 8) (aCons (o2 addO (rdV 9) (kO (.int 1))) aNil))))) fNx) (fFor (iRng2 (lCons (oL (g2 max2O) (lCons (kO (.int 0)) (lCons (o2 addO (o2 subI (rdV 5) (rdV 0)) (kO (.int 1))) lNil))) (lCons (oL (g2 min2O) (lCons (rdV 0) (lCons (o2 addO (rdV 5) (kO (.int 1))) lNil))) lNil))) lg0__law_slants lb0__law_slants))
def lg1__law_slants : FT := (gT 3 (gCons' (gN 7) (gCons' (gN 8) (gCons' (gN 9) gNil'))))
def lb2__law_slants : FS := (fSeq (fSet 6 (dLst aNil)) (fSeq (fAcc 6) (fSeq (fFor (iSeq (frV 4)) lg1__law_slants lb1__law_slants) (fSeq (fSet 4 (oL (g1 listO) (lCons (rdV 6) lNil))) (fSeq (fFz 4) fNx)))))
def lg2__law_slants : FT := (gN 5)
def b__law_slants : FS := (fSeq (fSet 3 (dLst aNil)) (fSeq (fFz 3) (fSeq (fSet 4 (dLst (aCons (dTup (aCons (dTup aNil) (aCons (dTup aNil) (aCons (kO (.int 0)) aNil)))) aNil))) (fSeq (fFz 4) (fSeq (fFor (iRng1 (lCons (o2 subI (o2 mulO (kO (.int 2)) (rdV 0)) (kO (.int 1))) lNil)) lg2__law_slants lb2__law_slants) (fRet (oL (g1 sortA) (lCons (oLc 12 [7, 8, 9] (iSeq (frV 4)) (gT 3 (gCons' (gN 7) (gCons' (gN 8) (gCons' (gN 9) gNil')))) (bO (o2 eqO (oL (g1 lenA) (lCons (rdV 7) lNil)) (rdV 1))) (oL (g1 tupO) (lCons (oL (g1 sortA) (lCons (rdV 7) lNil)) lNil))) lNil))))))))
def F__law_slants : Fn := fnOf 12 b__law_slants
theorem fn__law_slants (hd : Hd w K mg) {fd : FuncData} (Fd : FunD K (PySem.Str.ofString "_law_slants") (PySem.Str.ofString "_law_slants") (defArgs (top 26)) (defBody (top 26)) (defScope (top 26)) [] [] (He.ga K (PySem.Str.ofString "_law_slants")) fd) : FnOk P w K mg base CX0 1 (He.ga K (PySem.Str.ofString "_law_slants")) fd [(PySem.Str.ofString "n"), (PySem.Str.ofString "many"), (PySem.Str.ofString "limit")] (spP K 3 F__law_slants) := by
  refine fn_ok Fd sc__law_slants rfl rfl fun cdv A outer s H E hr => ?_
  have hu := hr.units
  have hND := sc__law_slants.nd
  exact (s_cons (s_set 3 hND (d_lst a_nil)) (s_fz 3 (s_cons (s_set 4 hND (d_lst (a_cons (d_tup (a_cons (d_tup a_nil) (a_cons (d_tup a_nil) (a_cons d_int a_nil)))) a_nil))) (s_fz 4 (s_cons (s_for PassesOwn.never rfl (i_range1 rfl hd.fr_range (ra_cons (DP.pr (d_op2 op_sub rd_sub (DP.pr (d_op2 op_mulO rd_mulO (DP.pr d_int) (r_var 0))) (DP.pr d_int))) ra_nil)) (g_name 5 hND) (s_cons (s_set 6 hND (d_lst a_nil)) (s_acc 6 (s_cons (s_for PassesOwn.never rfl (i_seq (d_var 4)) (g_tup rfl (g_cons (g_name 7 hND) (g_cons (g_name 8 hND) (g_cons (g_name 9 hND) g_nil)))) (s_cons (s_if (t_cmp (op_ltA hu) rd_ltA (r_var 9) (r_var 2)) (s_one (s_append 6 (d_tup (a_cons (d_var 7) (a_cons (d_var 8) (a_cons (d_op2 op_addO rd_addO (r_var 9) (DP.pr d_int)) a_nil)))))) s_nil) (s_one (s_for PassesOwn.never rfl (i_range2 rfl hd.fr_range (ra_cons (DP.pr (d_callB (call_max2 rfl) rd_max2 rfl hd.fr_max boot_max (ra_cons (DP.pr d_int) (ra_cons (DP.pr (d_op2 op_addO rd_addO (DP.pr (d_op2 op_sub rd_sub (r_var 5) (r_var 0))) (DP.pr d_int))) ra_nil)))) (ra_cons (DP.pr (d_callB (call_min2 rfl) rd_min2 rfl hd.fr_min boot_min (ra_cons (r_var 0) (ra_cons (DP.pr (d_op2 op_addO rd_addO (r_var 5) (DP.pr d_int))) ra_nil)))) ra_nil))) (g_name 10 hND) (s_cons (s_set 11 hND (d_op2 op_sub rd_sub (DP.pr (d_op2 op_mulO rd_mulO (DP.pr d_int) (r_var 10))) (r_var 5))) (s_one (s_if (t_cmp (op_niB hu) rd_niB (r_var 11) (r_var 8)) (s_one (s_append 6 (d_tup (a_cons (d_op2 op_addO rd_addO (r_var 7) (DP.pr (d_tup (a_cons (d_tup (a_cons (d_var 10) (a_cons (d_op2 op_sub rd_sub (r_var 5) (r_var 10)) a_nil))) a_nil)))) (a_cons (d_op2 op_addO rd_addO (r_var 8) (DP.pr (d_tup (a_cons (d_var 11) a_nil)))) (a_cons (d_var 9) a_nil)))))) s_nil))))))) (s_cons (s_set 4 hND (d_callTy call_list_of rd_list rfl hd.fr_list boot_list (ra_cons (r_var 6) ra_nil))) (s_fz 4 s_nil)))))) (s_one (s_ret (d_callB (op_sortAll rfl hu) rd_sortAll rfl hd.fr_sorted boot_sorted (ra_cons (DP.pr (d_lc (n := 12) [((PySem.Str.ofString "lot"), 7), ((PySem.Str.ofString "used"), 8), ((PySem.Str.ofString "gaps"), 9)] rfl hND (i_seq (d_var 4)) (blkOk_by (by kernel_rfl)) (fun _ _ _ _ _ => (g_tup rfl (g_cons (g_name 7 hND) (g_cons (g_name 8 hND) (g_cons (g_name 9 hND) g_nil))))) (fun _ _ _ _ _ => (ts_one (t_cmp (op_eqG hu) rd_eq (DP.pr (d_callB op_lenA rd_lenA rfl hd.fr_len PySem.boot_len (ra_cons (r_var 7) ra_nil))) (r_var 1)))) (fun _ _ _ _ _ => (d_callTy call_tuple_of rd_tuple rfl hd.fr_tuple boot_tuple (ra_cons (DP.pr (d_callB (op_sortAll rfl hu) rd_sortAll rfl hd.fr_sorted boot_sorted (ra_cons (r_var 7) ra_nil))) ra_nil))))) ra_nil)))))))))
theorem ok__law_slants (hd : Hd w K mg) : Fok P w K mg base 1 (PySem.Str.ofString "_law_slants") [(PySem.Str.ofString "n"), (PySem.Str.ofString "many"), (PySem.Str.ofString "limit")] (spP K 3 F__law_slants) := by
  obtain ⟨fd, Fd⟩ := hd.fd__law_slants
  exact ⟨⟨fd, fn__law_slants hd Fd, Fd.bindsN fun _ _ _ _ _ _ us hl => match us, hl with | [_, _, _], _ => rfl⟩, hd.gl__law_slants, Fd.kp⟩
/-! ### _law_queens -/
theorem sc__law_queens : FnScope [(PySem.Str.ofString "n"), (PySem.Str.ofString "line"), (PySem.Str.ofString "r"), (PySem.Str.ofString "late"), (PySem.Str.ofString "row"), (PySem.Str.ofString "c"), (PySem.Str.ofString "s"), (PySem.Str.ofString "d")] [(PySem.Str.ofString "n")] (defScope (top 27)) := ⟨rfl, rfl, rfl, by decide +kernel, rfl, by decide +kernel, by decide +kernel⟩
def b__law_queens : FS := (fSeq (fSet 1 (dLst (aCons (dTup aNil) aNil))) (fSeq (fFz 1) (fSeq (fFor (iRng1 (lCons (rdV 0) lNil)) (gN 2) (fSeq (fSet 3 (dLst aNil)) (fSeq (fAcc 3) (fSeq (fFor (iSeq (frV 1)) (gN 4) (fFor (iRng1 (lCons (rdV 0) lNil)) (gN 5) (fIf (bO (o2 eqO (oLc 8 [6, 7] (iEnumD (aCons (frV 4) aNil)) (gT 2 (gCons' (gN 6) (gCons' (gN 7) gNil'))) (bOr (bO (o2 eqO (rdV 7) (rdV 5))) (bO (o2 eqO (oL (g1 absO) (lCons (o2 subI (rdV 7) (rdV 5)) lNil)) (o2 subI (rdV 2) (rdV 6))))) (kO (.int 1))) (dLst aNil))) (fApp 3 (o2 addO (rdV 4) (dTup (aCons (frV 5) aNil)))) fNx))) (fSeq (fSet 1 (oL (g1 listO) (lCons (rdV 3) lNil))) (fSeq (fFz 1) fNx)))))) (fRet (frV 1)))))
def F__law_queens : Fn := fnOf 8 b__law_queens
theorem fn__law_queens (hd : Hd w K mg) {fd : FuncData} (Fd : FunD K (PySem.Str.ofString "_law_queens") (PySem.Str.ofString "_law_queens") (defArgs (top 27)) (defBody (top 27)) (defScope (top 27)) [] [] (He.ga K (PySem.Str.ofString "_law_queens")) fd) : FnOk P w K mg base CX0 1 (He.ga K (PySem.Str.ofString "_law_queens")) fd [(PySem.Str.ofString "n")] (spP K 1 F__law_queens) := by
  refine fn_ok Fd sc__law_queens rfl rfl fun cdv A outer s H E hr => ?_
  have hu := hr.units
  have hND := sc__law_queens.nd
  exact (s_cons (s_set 1 hND (d_lst (a_cons (d_tup a_nil) a_nil))) (s_fz 1 (s_cons (s_for PassesOwn.never rfl (i_range1 rfl hd.fr_range (ra_cons (r_var 0) ra_nil)) (g_name 2 hND) (s_cons (s_set 3 hND (d_lst a_nil)) (s_acc 3 (s_cons (s_for PassesOwn.never rfl (i_seq (d_var 1)) (g_name 4 hND) (s_one (s_for PassesOwn.never rfl (i_range1 rfl hd.fr_range (ra_cons (r_var 0) ra_nil)) (g_name 5 hND) (s_one (s_if (t_cmp (op_eqG hu) rd_eq (DP.pr (d_lc (n := 8) [((PySem.Str.ofString "s"), 6), ((PySem.Str.ofString "d"), 7)] rfl hND (i_enum rfl hd.fr_enumerate (a_cons (d_var 4) a_nil)) (blkOk_by (by kernel_rfl)) (fun _ _ _ _ _ => (g_tup rfl (g_cons (g_name 6 hND) (g_cons (g_name 7 hND) g_nil)))) (fun _ _ _ _ _ => (ts_one (t_w (w_or (t_cmp (op_eqG hu) rd_eq (r_var 7) (r_var 5)) (w_or1 (t_cmp (op_eqG hu) rd_eq (DP.pr (d_callB call_abs rd_abs rfl hd.fr_abs boot_abs (ra_cons (DP.pr (d_op2 op_sub rd_sub (r_var 7) (r_var 5))) ra_nil))) (DP.pr (d_op2 op_sub rd_sub (r_var 2) (r_var 6))))))))) (fun _ _ _ _ _ => d_int))) (DP.pr (d_lst a_nil))) (s_one (s_append 3 (d_op2 op_addO rd_addO (r_var 4) (DP.pr (d_tup (a_cons (d_var 5) a_nil)))))) s_nil))))) (s_cons (s_set 1 hND (d_callTy call_list_of rd_list rfl hd.fr_list boot_list (ra_cons (r_var 3) ra_nil))) (s_fz 1 s_nil)))))) (s_one (s_ret (d_var 1))))))
theorem ok__law_queens (hd : Hd w K mg) : Fok P w K mg base 1 (PySem.Str.ofString "_law_queens") [(PySem.Str.ofString "n")] (spP K 1 F__law_queens) := by
  obtain ⟨fd, Fd⟩ := hd.fd__law_queens
  exact ⟨⟨fd, fn__law_queens hd Fd, Fd.bindsN fun _ _ _ _ _ _ us hl => match us, hl with | [_], _ => rfl⟩, hd.gl__law_queens, Fd.kp⟩
/-! ### _law_pauls -/
theorem sc__law_pauls : FnScope [(PySem.Str.ofString "n"), (PySem.Str.ofString "late"), (PySem.Str.ofString "c"), (PySem.Str.ofString "i")] [(PySem.Str.ofString "n")] (defScope (top 28)) := ⟨rfl, rfl, rfl, by decide +kernel, rfl, by decide +kernel, by decide +kernel⟩
def b__law_pauls : FS := (fSeq (fIf (bO (o2 niA (o2 modI (oL (g1 intO) (lCons (rdV 0) lNil)) (kO (.int 6))) (dTup (aCons (kO (.int 2)) (aCons (kO (.int 3)) aNil))))) (fSeq (fSet 1 (o2 addO (oLc 4 [3] (iRng1 (lCons (o2 divI (rdV 0) (kO (.int 2))) lNil)) (gN 3) bYes (o2 addO (o2 mulO (kO (.int 2)) (rdV 3)) (kO (.int 1)))) (oLc 4 [3] (iRng1 (lCons (o2 subI (rdV 0) (o2 divI (rdV 0) (kO (.int 2)))) lNil)) (gN 3) bYes (o2 mulO (kO (.int 2)) (rdV 3))))) (fSeq (fFz 1) (fRet (frV 1)))) fNx) (fSeq (fIf (bO (o2 eqO (o2 modI (oL (g1 intO) (lCons (rdV 0) lNil)) (kO (.int 6))) (kO (.int 2)))) (fSeq (fSet 1 (oLc 4 [2] (iRng3 (lCons (kO (.int 1)) (lCons (rdV 0) (lCons (kO (.int 2)) lNil)))) (gN 2) bYes (frV 2))) (fSeq (fFz 1) (fRet (o2 addO (o2 addO (o2 addO (rdV 1) (dLst (aCons (kO (.int 2)) (aCons (kO (.int 0)) aNil)))) (oLc 4 [2] (iRng3 (lCons (kO (.int 6)) (lCons (rdV 0) (lCons (kO (.int 2)) lNil)))) (gN 2) bYes (frV 2))) (dLst (aCons (kO (.int 4)) aNil)))))) fNx) (fSeq (fSet 1 (o2 addO (oLc 4 [2] (iRng3 (lCons (kO (.int 3)) (lCons (rdV 0) (lCons (kO (.int 2)) lNil)))) (gN 2) bYes (frV 2)) (dLst (aCons (kO (.int 1)) aNil)))) (fSeq (fFz 1) (fRet (o2 addO (o2 addO (rdV 1) (oLc 4 [2] (iRng3 (lCons (kO (.int 4)) (lCons (rdV 0) (lCons (kO (.int 2)) lNil)))) (gN 2) bYes (frV 2))) (dLst (aCons (kO (.int 0)) (aCons (kO (.int 2)) aNil)))))))))
def F__law_pauls : Fn := fnOf 4 b__law_pauls
theorem fn__law_pauls (hd : Hd w K mg) {fd : FuncData} (Fd : FunD K (PySem.Str.ofString "_law_pauls") (PySem.Str.ofString "_law_pauls") (defArgs (top 28)) (defBody (top 28)) (defScope (top 28)) [] [] (He.ga K (PySem.Str.ofString "_law_pauls")) fd) : FnOk P w K mg base CX0 1 (He.ga K (PySem.Str.ofString "_law_pauls")) fd [(PySem.Str.ofString "n")] (spP K 1 F__law_pauls) := by
  refine fn_ok Fd sc__law_pauls rfl rfl fun cdv A outer s H E hr => ?_
  have hu := hr.units
  have hND := sc__law_pauls.nd
  exact (s_cons (s_if (t_cmp (op_niB hu) rd_niB (DP.pr (d_op2 op_mod rd_mod (DP.pr (d_callTy call_int1 rd_int rfl hd.fr_int boot_int (ra_cons (r_var 0) ra_nil))) (DP.pr d_int))) (DP.pr (d_tup (a_cons d_int (a_cons d_int a_nil))))) (s_cons (s_set 1 hND (d_op2 op_addO rd_addO (DP.pr (d_lc (n := 4) [((PySem.Str.ofString "i"), 3)] rfl hND (i_range1 rfl hd.fr_range (ra_cons (DP.pr (d_op2 op_fdiv rd_div (r_var 0) (DP.pr d_int))) ra_nil)) (blkOk_by (by kernel_rfl)) (fun _ _ _ _ _ => (g_name 3 hND)) (fun _ _ _ _ _ => ts_nil) (fun _ _ _ _ _ => (d_op2 op_addO rd_addO (DP.pr (d_op2 op_mulO rd_mulO (DP.pr d_int) (r_var 3))) (DP.pr d_int))))) (DP.pr (d_lc (n := 4) [((PySem.Str.ofString "i"), 3)] rfl hND (i_range1 rfl hd.fr_range (ra_cons (DP.pr (d_op2 op_sub rd_sub (r_var 0) (DP.pr (d_op2 op_fdiv rd_div (r_var 0) (DP.pr d_int))))) ra_nil)) (blkOk_by (by kernel_rfl)) (fun _ _ _ _ _ => (g_name 3 hND)) (fun _ _ _ _ _ => ts_nil) (fun _ _ _ _ _ => (d_op2 op_mulO rd_mulO (DP.pr d_int) (r_var 3))))))) (s_fz 1 (s_one (s_ret (d_var 1))))) s_nil) (s_cons (s_if (t_cmp (op_eqG hu) rd_eq (DP.pr (d_op2 op_mod rd_mod (DP.pr (d_callTy call_int1 rd_int rfl hd.fr_int boot_int (ra_cons (r_var 0) ra_nil))) (DP.pr d_int))) (DP.pr d_int)) (s_cons (s_setLc (n := 4) 1 [((PySem.Str.ofString "c"), 2)] rfl hND (i_range3 rfl hd.fr_range (ra_cons (DP.pr d_int) (ra_cons (r_var 0) (ra_cons (DP.pr d_int) ra_nil)))) (blkOk_by (by kernel_rfl)) (fun _ _ _ _ _ => (g_name 2 hND)) (fun _ _ _ _ _ => ts_nil) (fun _ _ _ _ _ => (d_var 2)) (sw_true rfl rfl rfl (by decide +kernel))) (s_fz 1 (s_one (s_ret (d_op2 op_addO rd_addO (DP.pr (d_op2 op_addO rd_addO (DP.pr (d_op2 op_addO rd_addO (r_var 1) (DP.pr (d_lst (a_cons d_int (a_cons d_int a_nil)))))) (DP.pr (d_lc (n := 4) [((PySem.Str.ofString "c"), 2)] rfl hND (i_range3 rfl hd.fr_range (ra_cons (DP.pr d_int) (ra_cons (r_var 0) (ra_cons (DP.pr d_int) ra_nil)))) (blkOk_by (by kernel_rfl)) (fun _ _ _ _ _ => (g_name 2 hND)) (fun _ _ _ _ _ => ts_nil) (fun _ _ _ _ _ => (d_var 2)))))) (DP.pr (d_lst (a_cons d_int a_nil)))))))) s_nil) (s_cons (s_set 1 hND (d_op2 op_addO rd_addO (DP.pr (d_lc (n := 4) [((PySem.Str.ofString "c"), 2)] rfl hND (i_range3 rfl hd.fr_range (ra_cons (DP.pr d_int) (ra_cons (r_var 0) (ra_cons (DP.pr d_int) ra_nil)))) (blkOk_by (by kernel_rfl)) (fun _ _ _ _ _ => (g_name 2 hND)) (fun _ _ _ _ _ => ts_nil) (fun _ _ _ _ _ => (d_var 2)))) (DP.pr (d_lst (a_cons d_int a_nil))))) (s_fz 1 (s_one (s_ret (d_op2 op_addO rd_addO (DP.pr (d_op2 op_addO rd_addO (r_var 1) (DP.pr (d_lc (n := 4) [((PySem.Str.ofString "c"), 2)] rfl hND (i_range3 rfl hd.fr_range (ra_cons (DP.pr d_int) (ra_cons (r_var 0) (ra_cons (DP.pr d_int) ra_nil)))) (blkOk_by (by kernel_rfl)) (fun _ _ _ _ _ => (g_name 2 hND)) (fun _ _ _ _ _ => ts_nil) (fun _ _ _ _ _ => (d_var 2)))))) (DP.pr (d_lst (a_cons d_int (a_cons d_int a_nil)))))))))))
theorem ok__law_pauls (hd : Hd w K mg) : Fok P w K mg base 1 (PySem.Str.ofString "_law_pauls") [(PySem.Str.ofString "n")] (spP K 1 F__law_pauls) := by
  obtain ⟨fd, Fd⟩ := hd.fd__law_pauls
  exact ⟨⟨fd, fn__law_pauls hd Fd, Fd.bindsN fun _ _ _ _ _ _ us hl => match us, hl with | [_], _ => rfl⟩, hd.gl__law_pauls, Fd.kp⟩
/-! ### _law_squares -/
theorem sc__law_squares : FnScope [(PySem.Str.ofString "m"), (PySem.Str.ofString "n"), (PySem.Str.ofString "found"), (PySem.Str.ofString "r"), (PySem.Str.ofString "c")] [(PySem.Str.ofString "m"), (PySem.Str.ofString "n")] (defScope (top 30)) := ⟨rfl, rfl, rfl, by decide +kernel, rfl, by decide +kernel, by decide +kernel⟩
def b__law_squares : FS := (fSeq (fSet 2 (dLst aNil)) (fSeq (fFz 2) (fSeq (fFor (iRng1 (lCons (rdV 0) lNil)) (gN 3) (fSeq (fSet 2 (o2 addO (rdV 2) (oLc 5 [4] (iRng1 (lCons (rdV 1) lNil)) (gN 4) bYes (dTup (aCons (frV 3) (aCons (frV 4) aNil)))))) (fSeq (fFz 2) fNx))) (fRet (frV 2)))))
def F__law_squares : Fn := fnOf 5 b__law_squares
theorem fn__law_squares (hd : Hd w K mg) {fd : FuncData} (Fd : FunD K (PySem.Str.ofString "_law_squares") (PySem.Str.ofString "_law_squares") (defArgs (top 30)) (defBody (top 30)) (defScope (top 30)) [] [] (He.ga K (PySem.Str.ofString "_law_squares")) fd) : FnOk P w K mg base CX0 1 (He.ga K (PySem.Str.ofString "_law_squares")) fd [(PySem.Str.ofString "m"), (PySem.Str.ofString "n")] (spP K 2 F__law_squares) := by
  refine fn_ok Fd sc__law_squares rfl rfl fun cdv A outer s H E hr => ?_
  have hu := hr.units
  have hND := sc__law_squares.nd
  exact (s_cons (s_set 2 hND (d_lst a_nil)) (s_fz 2 (s_cons (s_for PassesOwn.never rfl (i_range1 rfl hd.fr_range (ra_cons (r_var 0) ra_nil)) (g_name 3 hND) (s_cons (s_set 2 hND (d_op2 op_addO rd_addO (r_var 2) (DP.pr (d_lc (n := 5) [((PySem.Str.ofString "c"), 4)] rfl hND (i_range1 rfl hd.fr_range (ra_cons (r_var 1) ra_nil)) (blkOk_by (by kernel_rfl)) (fun _ _ _ _ _ => (g_name 4 hND)) (fun _ _ _ _ _ => ts_nil) (fun _ _ _ _ _ => (d_tup (a_cons (d_var 3) (a_cons (d_var 4) a_nil)))))))) (s_fz 2 s_nil))) (s_one (s_ret (d_var 2))))))
theorem ok__law_squares (hd : Hd w K mg) : Fok P w K mg base 1 (PySem.Str.ofString "_law_squares") [(PySem.Str.ofString "m"), (PySem.Str.ofString "n")] (spP K 2 F__law_squares) := by
  obtain ⟨fd, Fd⟩ := hd.fd__law_squares
  exact ⟨⟨fd, fn__law_squares hd Fd, Fd.bindsN fun _ _ _ _ _ _ us hl => match us, hl with | [_, _], _ => rfl⟩, hd.gl__law_squares, Fd.kp⟩
/-! ### reached_squares -/
theorem sc_reached_squares : FnScope [(PySem.Str.ofString "piece"), (PySem.Str.ofString "m"), (PySem.Str.ofString "n"), (PySem.Str.ofString "square"), (PySem.Str.ofString "found"), (PySem.Str.ofString "k"), (PySem.Str.ofString "a"), (PySem.Str.ofString "b"), (PySem.Str.ofString "r"), (PySem.Str.ofString "c"), (PySem.Str.ofString "s")] [(PySem.Str.ofString "piece"), (PySem.Str.ofString "m"), (PySem.Str.ofString "n"), (PySem.Str.ofString "square")] (defScope (top 4)) := ⟨rfl, rfl, rfl, by decide +kernel, rfl, by decide +kernel, by decide +kernel⟩
def b_reached_squares : FS := (fSeq (fSet 4 (dLst aNil)) (fSeq (fAcc 4) (fSeq (fFor (iRng2 (lCons (kO (.int 1)) (lCons (o2 addO (dCall 3 F_how_far (aCons (frV 0) (aCons (frV 1) (aCons (frV 2) aNil)))) (kO (.int 1))) lNil))) (gN 5) (fFor (iTab t_STEPS (frV 0)) (gT 2 (gCons' (gN 6) (gCons' (gN 7) gNil'))) (fExt 4 (oLc 11 [10] (iSeq (dTup (aCons (o1 negI (kO (.int 1))) (aCons (kO (.int 1)) aNil)))) (gN 10) bYes (dTup (aCons (o2 addO (o2 ixA (rdV 3) (kO (.int 0))) (o2 mulO (o2 mulO (rdV 10) (rdV 5)) (rdV 6))) (aCons (o2 addO (o2 ixA (rdV 3) (kO (.int 1))) (o2 mulO (o2 mulO (rdV 10) (rdV 5)) (rdV 7))) aNil))))))) (fSeq (fFz 4) (fRet (oL (g1 tupO) (lCons (oL (g1 sortA) (lCons (oLc 11 [8, 9] (iSeq (frV 4)) (gT 2 (gCons' (gN 8) (gCons' (gN 9) gNil'))) (bAnd (bO (oChain leA ltA (kO (.int 0)) (rdV 8) (rdV 1))) (bO (oChain leA ltA (kO (.int 0)) (rdV 9) (rdV 2)))) (dTup (aCons (frV 8) (aCons (frV 9) aNil)))) lNil)) lNil)))))))
def F_reached_squares : Fn := fnOf 11 b_reached_squares
theorem fn_reached_squares (hd : Hd w K mg) {fd : FuncData} (Fd : FunD K (PySem.Str.ofString "reached_squares") (PySem.Str.ofString "reached_squares") (defArgs (top 4)) (defBody (top 4)) (defScope (top 4)) [] [] (He.ga K (PySem.Str.ofString "reached_squares")) fd) : FnOk P w K mg base CX0 2 (He.ga K (PySem.Str.ofString "reached_squares")) fd [(PySem.Str.ofString "piece"), (PySem.Str.ofString "m"), (PySem.Str.ofString "n"), (PySem.Str.ofString "square")] (spP K 4 F_reached_squares) := by
  refine fn_ok Fd sc_reached_squares rfl rfl fun cdv A outer s H E hr => ?_
  have hu := hr.units
  have hND := sc_reached_squares.nd
  exact (s_cons (s_set 4 hND (d_lst a_nil)) (s_acc 4 (s_cons (s_for PassesOwn.never rfl (i_range2 rfl hd.fr_range (ra_cons (DP.pr d_int) (ra_cons (DP.pr (d_op2 op_addO rd_addO (DP.pr (d_callF (ok_how_far hd) hr (by decide) (a_cons (d_var 0) (a_cons (d_var 1) (a_cons (d_var 2) a_nil))))) (DP.pr d_int))) ra_nil))) (g_name 5 hND) (s_one (s_forR PassesOwn.never rfl (i_tab hd.tab_STEPS rfl hd.gl_STEPS (d_var 0)) (g_tupC rfl (g_cons (g_name 6 hND) (g_cons (g_name 7 hND) g_nil))) (s_one (s_extend 4 (d_lc (n := 11) [((PySem.Str.ofString "s"), 10)] rfl hND (i_seq (d_tup (a_cons (d_un un_neg rd_neg (DP.pr d_int)) (a_cons d_int a_nil)))) (blkOk_by (by kernel_rfl)) (fun _ _ _ _ _ => (g_name 10 hND)) (fun _ _ _ _ _ => ts_nil) (fun _ _ _ _ _ => (d_tup (a_cons (d_op2 op_addO rd_addO (d_ixR hu (r_var 3) (DP.pr d_int)) (DP.pr (d_op2 op_mulO rd_mulO (DP.pr (d_op2 op_mulO rd_mulO (r_var 10) (r_var 5))) (r_var 6)))) (a_cons (d_op2 op_addO rd_addO (d_ixR hu (r_var 3) (DP.pr d_int)) (DP.pr (d_op2 op_mulO rd_mulO (DP.pr (d_op2 op_mulO rd_mulO (r_var 10) (r_var 5))) (r_var 7)))) a_nil)))))))))) (s_fz 4 (s_one (s_ret (d_callTy call_tuple_of rd_tuple rfl hd.fr_tuple boot_tuple (ra_cons (DP.pr (d_callB (op_sortAll rfl hu) rd_sortAll rfl hd.fr_sorted boot_sorted (ra_cons (DP.pr (d_lc (n := 11) [((PySem.Str.ofString "r"), 8), ((PySem.Str.ofString "c"), 9)] rfl hND (i_seq (d_var 4)) (blkOk_by (by kernel_rfl)) (fun _ _ _ _ _ => (g_tup rfl (g_cons (g_name 8 hND) (g_cons (g_name 9 hND) g_nil)))) (fun _ _ _ _ _ => (ts_one (t_w (w_and (t_chain (op_leA hu) rd_leA (op_ltA hu) rd_ltA (DP.pr d_int) (r_var 8) (r_var 1)) (w_and1 (t_chain (op_leA hu) rd_leA (op_ltA hu) rd_ltA (DP.pr d_int) (r_var 9) (r_var 2))))))) (fun _ _ _ _ _ => (d_tup (a_cons (d_var 8) (a_cons (d_var 9) a_nil)))))) ra_nil))) ra_nil))))))))
theorem ok_reached_squares (hd : Hd w K mg) : Fok P w K mg base 2 (PySem.Str.ofString "reached_squares") [(PySem.Str.ofString "piece"), (PySem.Str.ofString "m"), (PySem.Str.ofString "n"), (PySem.Str.ofString "square")] (spP K 4 F_reached_squares) := by
  obtain ⟨fd, Fd⟩ := hd.fd_reached_squares
  exact ⟨⟨fd, fn_reached_squares hd Fd, Fd.bindsN fun _ _ _ _ _ _ us hl => match us, hl with | [_, _, _, _], _ => rfl⟩, hd.gl_reached_squares, Fd.kp⟩
/-! ### told_king_peace -/
theorem sc_told_king_peace : FnScope [(PySem.Str.ofString "m"), (PySem.Str.ofString "n")] [(PySem.Str.ofString "m"), (PySem.Str.ofString "n")] (defScope (top 21)) := ⟨rfl, rfl, rfl, by decide +kernel, rfl, by decide +kernel, by decide +kernel⟩
def b_told_king_peace : FS := (fRet (dCall 2 F_squares_by (aCons (dCall 3 F_places_by (aCons (kO (.int 2)) (aCons (kO (.int 0)) (aCons (frV 0) aNil)))) (aCons (dCall 3 F_places_by (aCons (kO (.int 2)) (aCons (kO (.int 0)) (aCons (frV 1) aNil)))) aNil))))
def F_told_king_peace : Fn := fnOf 2 b_told_king_peace
theorem fn_told_king_peace (hd : Hd w K mg) {fd : FuncData} (Fd : FunD K (PySem.Str.ofString "told_king_peace") (PySem.Str.ofString "told_king_peace") (defArgs (top 21)) (defBody (top 21)) (defScope (top 21)) [] [] (He.ga K (PySem.Str.ofString "told_king_peace")) fd) : FnOk P w K mg base CX0 2 (He.ga K (PySem.Str.ofString "told_king_peace")) fd [(PySem.Str.ofString "m"), (PySem.Str.ofString "n")] (spP K 2 F_told_king_peace) := by
  refine fn_ok Fd sc_told_king_peace rfl rfl fun cdv A outer s H E hr => ?_
  have hu := hr.units
  have hND := sc_told_king_peace.nd
  exact (s_one (s_ret (d_callF (ok_squares_by hd) hr (by decide) (a_cons (d_callF (ok_places_by hd) hr (by decide) (a_cons d_int (a_cons d_int (a_cons (d_var 0) a_nil)))) (a_cons (d_callF (ok_places_by hd) hr (by decide) (a_cons d_int (a_cons d_int (a_cons (d_var 1) a_nil)))) a_nil)))))
theorem ok_told_king_peace (hd : Hd w K mg) : Fok P w K mg base 2 (PySem.Str.ofString "told_king_peace") [(PySem.Str.ofString "m"), (PySem.Str.ofString "n")] (spP K 2 F_told_king_peace) := by
  obtain ⟨fd, Fd⟩ := hd.fd_told_king_peace
  exact ⟨⟨fd, fn_told_king_peace hd Fd, Fd.bindsN fun _ _ _ _ _ _ us hl => match us, hl with | [_, _], _ => rfl⟩, hd.gl_told_king_peace, Fd.kp⟩
/-! ### _law_of -/
theorem sc__law_of : FnScope [(PySem.Str.ofString "source"), (PySem.Str.ofString "some")] [(PySem.Str.ofString "source"), (PySem.Str.ofString "some")] (defScope (top 25)) := ⟨rfl, rfl, rfl, by decide +kernel, rfl, by decide +kernel, by decide +kernel⟩
def b__law_of : FS := (fRetE (e2O ixO (eP (frV 1)) (eCallB 0 1 F__law_pick (eaCons (eP (oL (g1 lenA) (lCons (rdV 1) lNil))) eaNil))))
def c0__law_of : FS := (fRetE (e2O ixO (eP (frV 1)) (eCallB 0 1 F__law_pick (eaCons (eP (oL (g1 lenA) (lCons (rdV 1) lNil))) eaNil))))
theorem g__law_of : b__law_of = c0__law_of := by
  simp only [b__law_of, c0__law_of, fSeq_assoc]
def F__law_of : FnB := fnOfB 2 b__law_of
theorem fn__law_of (hd : Hd w K mg) {fd : FuncData} (Fd : FunD K (PySem.Str.ofString "_law_of") (PySem.Str.ofString "_law_of") (defArgs (top 25)) (defBody (top 25)) (defScope (top 25)) [] [] (He.ga K (PySem.Str.ofString "_law_of")) fd) : FnOk P w K mg base CX0 2 (He.ga K (PySem.Str.ofString "_law_of")) fd [(PySem.Str.ofString "source"), (PySem.Str.ofString "some")] (spB K 1 F__law_of) := by
  refine fn_okB Fd sc__law_of rfl rfl fun cdv A outer s H E hr => ?_
  have hu := hr.units
  have hND := sc__law_of.nd
  exact (s_one (s_retE (e_ix (e_p (d_var 1)) (e_lentF 0 (ok__law_pick hd) hr (by decide) (ea_cons (e_p (d_callB op_lenA rd_lenA rfl hd.fr_len PySem.boot_len (ra_cons (r_var 1) ra_nil))) ea_nil)))))
theorem ok__law_of (hd : Hd w K mg) : Fok P w K mg base 2 (PySem.Str.ofString "_law_of") [(PySem.Str.ofString "source"), (PySem.Str.ofString "some")] (spB K 1 F__law_of) := by
  obtain ⟨fd, Fd⟩ := hd.fd__law_of
  exact ⟨⟨fd, fn__law_of hd Fd, Fd.bindsN fun _ _ _ _ _ _ us hl => match us, hl with | [_, _], _ => rfl⟩, hd.gl__law_of, Fd.kp⟩
/-! ### watched_squares -/
theorem sc_watched_squares : FnScope [(PySem.Str.ofString "piece"), (PySem.Str.ofString "m"), (PySem.Str.ofString "n"), (PySem.Str.ofString "lot"), (PySem.Str.ofString "known"), (PySem.Str.ofString "square"), (PySem.Str.ofString "other")] [(PySem.Str.ofString "piece"), (PySem.Str.ofString "m"), (PySem.Str.ofString "n"), (PySem.Str.ofString "lot")] (defScope (top 5)) := ⟨rfl, rfl, rfl, by decide +kernel, rfl, by decide +kernel, by decide +kernel⟩
def b_watched_squares : FS := (fSeq (fSet 4 (fun _ => some (.dt []))) (fSeq (fFor (iSeq (frV 3)) (gN 5) (fSeq (fPutA 4 (rdV 5) (kO (.bool true))) (fUpd 4 (oDc dkeyT .dt 7 [6] (iSeq (dCall 4 F_reached_squares (aCons (frV 0) (aCons (frV 1) (aCons (frV 2) (aCons (frV 5) aNil)))))) (gN 6) bYes (frV 6) (kO (.bool true)))))) (fRet (oL (g1 tupO) (lCons (oL (g1 sortA) (lCons (rdV 4) lNil)) lNil)))))
def F_watched_squares : Fn := fnOf 7 b_watched_squares
theorem fn_watched_squares (hd : Hd w K mg) {fd : FuncData} (Fd : FunD K (PySem.Str.ofString "watched_squares") (PySem.Str.ofString "watched_squares") (defArgs (top 5)) (defBody (top 5)) (defScope (top 5)) [] [] (He.ga K (PySem.Str.ofString "watched_squares")) fd) : FnOk P w K mg base CX0 3 (He.ga K (PySem.Str.ofString "watched_squares")) fd [(PySem.Str.ofString "piece"), (PySem.Str.ofString "m"), (PySem.Str.ofString "n"), (PySem.Str.ofString "lot")] (spP K 4 F_watched_squares) := by
  refine fn_ok Fd sc_watched_squares rfl rfl fun cdv A outer s H E hr => ?_
  have hu := hr.units
  have hND := sc_watched_squares.nd
  exact (s_cons (s_set 4 hND d_newT) (s_cons (s_for PassesOwn.never rfl (i_seq (d_var 3)) (g_name 5 hND) (s_cons (s_put 4 hu d_bl (r_var 5)) (s_one (s_update 4 hu (d_dc (tabT _) (n := 7) [((PySem.Str.ofString "other"), 6)] hu rfl hND (i_seq (d_callF (ok_reached_squares hd) hr (by decide) (a_cons (d_var 0) (a_cons (d_var 1) (a_cons (d_var 2) (a_cons (d_var 5) a_nil)))))) (blkOk_by (by kernel_rfl)) (fun _ _ _ _ _ => (g_name 6 hND)) (fun _ _ _ _ _ => ts_nil) (fun _ _ _ _ _ => (d_var 6)) (fun _ _ _ _ _ => d_bl)))))) (s_one (s_ret (d_callTy call_tuple_of rd_tuple rfl hd.fr_tuple boot_tuple (ra_cons (DP.pr (d_callB (op_sortAll rfl hu) rd_sortAll rfl hd.fr_sorted boot_sorted (ra_cons (r_var 4) ra_nil))) ra_nil))))))
theorem ok_watched_squares (hd : Hd w K mg) : Fok P w K mg base 3 (PySem.Str.ofString "watched_squares") [(PySem.Str.ofString "piece"), (PySem.Str.ofString "m"), (PySem.Str.ofString "n"), (PySem.Str.ofString "lot")] (spP K 4 F_watched_squares) := by
  obtain ⟨fd, Fd⟩ := hd.fd_watched_squares
  exact ⟨⟨fd, fn_watched_squares hd Fd, Fd.bindsN fun _ _ _ _ _ _ us hl => match us, hl with | [_, _, _, _], _ => rfl⟩, hd.gl_watched_squares, Fd.kp⟩
/-! ### is_at_peace -/
theorem sc_is_at_peace : FnScope [(PySem.Str.ofString "piece"), (PySem.Str.ofString "m"), (PySem.Str.ofString "n"), (PySem.Str.ofString "lot"), (PySem.Str.ofString "square"), (PySem.Str.ofString "other")] [(PySem.Str.ofString "piece"), (PySem.Str.ofString "m"), (PySem.Str.ofString "n"), (PySem.Str.ofString "lot")] (defScope (top 7)) := ⟨rfl, rfl, rfl, by decide +kernel, rfl, by decide +kernel, by decide +kernel⟩
def b_is_at_peace : FS := (fSeq (fFor (iSeq (frV 3)) (gN 4) (fIf (bO (oL (g1 anyO) (lCons (oLc 6 [5] (iSeq (dCall 4 F_reached_squares (aCons (frV 0) (aCons (frV 1) (aCons (frV 2) (aCons (frV 4) aNil)))))) (gN 5) bYes (o2 inA (rdV 5) (rdV 3))) lNil))) (fRet (kO (.bool false))) fNx)) (fRet (kO (.bool true))))
def F_is_at_peace : Fn := fnOf 6 b_is_at_peace
theorem fn_is_at_peace (hd : Hd w K mg) {fd : FuncData} (Fd : FunD K (PySem.Str.ofString "is_at_peace") (PySem.Str.ofString "is_at_peace") (defArgs (top 7)) (defBody (top 7)) (defScope (top 7)) [] [] (He.ga K (PySem.Str.ofString "is_at_peace")) fd) : FnOk P w K mg base CX0 3 (He.ga K (PySem.Str.ofString "is_at_peace")) fd [(PySem.Str.ofString "piece"), (PySem.Str.ofString "m"), (PySem.Str.ofString "n"), (PySem.Str.ofString "lot")] (spP K 4 F_is_at_peace) := by
  refine fn_ok Fd sc_is_at_peace rfl rfl fun cdv A outer s H E hr => ?_
  have hu := hr.units
  have hND := sc_is_at_peace.nd
  exact (s_cons (s_for PassesOwn.never rfl (i_seq (d_var 3)) (g_name 4 hND) (s_one (s_if (t_val (d_callB (cr_any rfl) rd_any rfl hd.fr_any boot_any (ra_cons (DP.pr (d_lc (n := 6) [((PySem.Str.ofString "other"), 5)] rfl hND (i_seq (d_callF (ok_reached_squares hd) hr (by decide) (a_cons (d_var 0) (a_cons (d_var 1) (a_cons (d_var 2) (a_cons (d_var 4) a_nil)))))) (blkOk_by (by kernel_rfl)) (fun _ _ _ _ _ => (g_name 5 hND)) (fun _ _ _ _ _ => ts_nil) (fun _ _ _ _ _ => (d_cmp (op_inB hu) rd_inB (r_var 5) (r_var 3))))) ra_nil))) (s_one (s_ret d_bl)) s_nil))) (s_one (s_ret d_bl)))
theorem ok_is_at_peace (hd : Hd w K mg) : Fok P w K mg base 3 (PySem.Str.ofString "is_at_peace") [(PySem.Str.ofString "piece"), (PySem.Str.ofString "m"), (PySem.Str.ofString "n"), (PySem.Str.ofString "lot")] (spP K 4 F_is_at_peace) := by
  obtain ⟨fd, Fd⟩ := hd.fd_is_at_peace
  exact ⟨⟨fd, fn_is_at_peace hd Fd, Fd.bindsN fun _ _ _ _ _ _ us hl => match us, hl with | [_, _, _, _], _ => rfl⟩, hd.gl_is_at_peace, Fd.kp⟩
/-! ### peaceful_next -/
theorem sc_peaceful_next : FnScope [(PySem.Str.ofString "piece"), (PySem.Str.ofString "m"), (PySem.Str.ofString "n"), (PySem.Str.ofString "lots"), (PySem.Str.ofString "squares"), (PySem.Str.ofString "found"), (PySem.Str.ofString "lot"), (PySem.Str.ofString "square"), (PySem.Str.ofString "near"), (PySem.Str.ofString "other")] [(PySem.Str.ofString "piece"), (PySem.Str.ofString "m"), (PySem.Str.ofString "n"), (PySem.Str.ofString "lots")] (defScope (top 8)) := ⟨rfl, rfl, rfl, by decide +kernel, rfl, by decide +kernel, by decide +kernel⟩
def b_peaceful_next : FS := (fSeq (fPar [4, 5] (lCons (dCall 2 F_all_squares (aCons (frV 1) (aCons (frV 2) aNil))) (lCons (dLst aNil) lNil))) (fSeq (fFz 4) (fSeq (fAcc 5) (fSeq (fFor (iSeq (frV 3)) (gN 6) (fFor (iSeq (frV 4)) (gN 7) (fIf (bOr (bO (o2 eqO (rdV 6) (dTup aNil))) (bO (o2 gtA (rdV 7) (o2 ixA (rdV 6) (o1 negI (kO (.int 1))))))) (fSeq (fSet 8 (dCall 4 F_reached_squares (aCons (frV 0) (aCons (frV 1) (aCons (frV 2) (aCons (frV 7) aNil)))))) (fSeq (fFz 8) (fExt 5 (oIf (bO (oL (g1 anyO) (lCons (oLc 10 [9] (iSeq (frV 6)) (gN 9) bYes (o2 inA (rdV 9) (rdV 8))) lNil))) (dLst aNil) (dLst (aCons (dTup (aStar (rdV 6) (aCons (frV 7) aNil))) aNil)))))) fNx))) (fSeq (fFz 5) (fRet (frV 5)))))))
def F_peaceful_next : Fn := fnOf 10 b_peaceful_next
theorem fn_peaceful_next (hd : Hd w K mg) {fd : FuncData} (Fd : FunD K (PySem.Str.ofString "peaceful_next") (PySem.Str.ofString "peaceful_next") (defArgs (top 8)) (defBody (top 8)) (defScope (top 8)) [] [] (He.ga K (PySem.Str.ofString "peaceful_next")) fd) : FnOk P w K mg base CX0 3 (He.ga K (PySem.Str.ofString "peaceful_next")) fd [(PySem.Str.ofString "piece"), (PySem.Str.ofString "m"), (PySem.Str.ofString "n"), (PySem.Str.ofString "lots")] (spP K 4 F_peaceful_next) := by
  refine fn_ok Fd sc_peaceful_next rfl rfl fun cdv A outer s H E hr => ?_
  have hu := hr.units
  have hND := sc_peaceful_next.nd
  exact (s_cons (s_par2 4 5 rfl hND (oa_cons (d_callF (ok_all_squares hd) hr (by decide) (a_cons (d_var 1) (a_cons (d_var 2) a_nil))) (oa_cons (d_lst a_nil) oa_nil))) (s_fz 4 (s_acc 5 (s_cons (s_for PassesOwn.never rfl (i_seq (d_var 3)) (g_name 6 hND) (s_one (s_for PassesOwn.never rfl (i_seq (d_var 4)) (g_name 7 hND) (s_one (s_if (t_w (w_or (t_cmp (op_eqG hu) rd_eq (r_var 6) (DP.pr (d_tup a_nil))) (w_or1 (t_cmp (op_gtA hu) rd_gtA (r_var 7) (d_ixR hu (r_var 6) (DP.pr (d_un un_neg rd_neg (DP.pr d_int)))))))) (s_cons (s_set 8 hND (d_callF (ok_reached_squares hd) hr (by decide) (a_cons (d_var 0) (a_cons (d_var 1) (a_cons (d_var 2) (a_cons (d_var 7) a_nil)))))) (s_fz 8 (s_one (s_extend 5 (d_if (t_val (d_callB (cr_any rfl) rd_any rfl hd.fr_any boot_any (ra_cons (DP.pr (d_lc (n := 10) [((PySem.Str.ofString "other"), 9)] rfl hND (i_seq (d_var 6)) (blkOk_by (by kernel_rfl)) (fun _ _ _ _ _ => (g_name 9 hND)) (fun _ _ _ _ _ => ts_nil) (fun _ _ _ _ _ => (d_cmp (op_inB hu) rd_inB (r_var 9) (r_var 8))))) ra_nil))) (d_lst a_nil) (d_lst (a_cons (d_tup (a_star (r_var 6) (a_cons (d_var 7) a_nil))) a_nil))))))) s_nil))))) (s_fz 5 (s_one (s_ret (d_var 5))))))))
theorem ok_peaceful_next (hd : Hd w K mg) : Fok P w K mg base 3 (PySem.Str.ofString "peaceful_next") [(PySem.Str.ofString "piece"), (PySem.Str.ofString "m"), (PySem.Str.ofString "n"), (PySem.Str.ofString "lots")] (spP K 4 F_peaceful_next) := by
  obtain ⟨fd, Fd⟩ := hd.fd_peaceful_next
  exact ⟨⟨fd, fn_peaceful_next hd Fd, Fd.bindsN fun _ _ _ _ _ _ us hl => match us, hl with | [_, _, _, _], _ => rfl⟩, hd.gl_peaceful_next, Fd.kp⟩
/-! ### is_watching_board -/
theorem sc_is_watching_board : FnScope [(PySem.Str.ofString "piece"), (PySem.Str.ofString "m"), (PySem.Str.ofString "n"), (PySem.Str.ofString "lot")] [(PySem.Str.ofString "piece"), (PySem.Str.ofString "m"), (PySem.Str.ofString "n"), (PySem.Str.ofString "lot")] (defScope (top 6)) := ⟨rfl, rfl, rfl, by decide +kernel, rfl, by decide +kernel, by decide +kernel⟩
def b_is_watching_board : FS := (fRet (o2 eqO (oL (g1 lenA) (lCons (dCall 4 F_watched_squares (aCons (frV 0) (aCons (frV 1) (aCons (frV 2) (aCons (frV 3) aNil))))) lNil)) (o2 mulO (rdV 1) (rdV 2))))
def F_is_watching_board : Fn := fnOf 4 b_is_watching_board
theorem fn_is_watching_board (hd : Hd w K mg) {fd : FuncData} (Fd : FunD K (PySem.Str.ofString "is_watching_board") (PySem.Str.ofString "is_watching_board") (defArgs (top 6)) (defBody (top 6)) (defScope (top 6)) [] [] (He.ga K (PySem.Str.ofString "is_watching_board")) fd) : FnOk P w K mg base CX0 4 (He.ga K (PySem.Str.ofString "is_watching_board")) fd [(PySem.Str.ofString "piece"), (PySem.Str.ofString "m"), (PySem.Str.ofString "n"), (PySem.Str.ofString "lot")] (spP K 4 F_is_watching_board) := by
  refine fn_ok Fd sc_is_watching_board rfl rfl fun cdv A outer s H E hr => ?_
  have hu := hr.units
  have hND := sc_is_watching_board.nd
  exact (s_one (s_ret (d_cmp (op_eqG hu) rd_eq (DP.pr (d_callB op_lenA rd_lenA rfl hd.fr_len PySem.boot_len (ra_cons (DP.pr (d_callF (ok_watched_squares hd) hr (by decide) (a_cons (d_var 0) (a_cons (d_var 1) (a_cons (d_var 2) (a_cons (d_var 3) a_nil)))))) ra_nil))) (DP.pr (d_op2 op_mulO rd_mulO (r_var 1) (r_var 2))))))
theorem ok_is_watching_board (hd : Hd w K mg) : Fok P w K mg base 4 (PySem.Str.ofString "is_watching_board") [(PySem.Str.ofString "piece"), (PySem.Str.ofString "m"), (PySem.Str.ofString "n"), (PySem.Str.ofString "lot")] (spP K 4 F_is_watching_board) := by
  obtain ⟨fd, Fd⟩ := hd.fd_is_watching_board
  exact ⟨⟨fd, fn_is_watching_board hd Fd, Fd.bindsN fun _ _ _ _ _ _ us hl => match us, hl with | [_, _, _, _], _ => rfl⟩, hd.gl_is_watching_board, Fd.kp⟩
/-! ### most_at_peace -/
theorem sc_most_at_peace : FnScope [(PySem.Str.ofString "piece"), (PySem.Str.ofString "m"), (PySem.Str.ofString "n"), (PySem.Str.ofString "lots"), (PySem.Str.ofString "many")] [(PySem.Str.ofString "piece"), (PySem.Str.ofString "m"), (PySem.Str.ofString "n")] (defScope (top 9)) := ⟨rfl, rfl, rfl, by decide +kernel, rfl, by decide +kernel, by decide +kernel⟩
def b_most_at_peace : FS := (fSeq (fPar [3, 4] (lCons (dLst (aCons (dTup aNil) aNil)) (lCons (o1 negI (kO (.int 1))) lNil))) (fSeq (fFz 3) (fSeq (fWh (fun _ => 65536) (bO (o2 neO (rdV 3) (dLst aNil))) (fSeq (fPar [3, 4] (lCons (dCall 4 F_peaceful_next (aCons (frV 0) (aCons (frV 1) (aCons (frV 2) (aCons (frV 3) aNil))))) (lCons (o2 addO (rdV 4) (kO (.int 1))) lNil))) (fSeq (fFz 3) (fSeq (fFz 4) fNx)))) (fRet (frV 4)))))
def F_most_at_peace : Fn := fnOf 5 b_most_at_peace
theorem fn_most_at_peace (hd : Hd w K mg) {fd : FuncData} (Fd : FunD K (PySem.Str.ofString "most_at_peace") (PySem.Str.ofString "most_at_peace") (defArgs (top 9)) (defBody (top 9)) (defScope (top 9)) [] [] (He.ga K (PySem.Str.ofString "most_at_peace")) fd) : FnOk P w K mg base CX0 4 (He.ga K (PySem.Str.ofString "most_at_peace")) fd [(PySem.Str.ofString "piece"), (PySem.Str.ofString "m"), (PySem.Str.ofString "n")] (spP K 3 F_most_at_peace) := by
  refine fn_ok Fd sc_most_at_peace rfl rfl fun cdv A outer s H E hr => ?_
  have hu := hr.units
  have hND := sc_most_at_peace.nd
  exact (s_cons (s_par2 3 4 rfl hND (oa_cons (d_lst (a_cons (d_tup a_nil) a_nil)) (oa_cons (d_un un_neg rd_neg (DP.pr d_int)) oa_nil))) (s_fz 3 (s_cons (s_while (fun _ => 65536) PassesOwn.never (t_cmp (op_neG hu) rd_ne (r_var 3) (DP.pr (d_lst a_nil))) (s_cons (s_par2 3 4 rfl hND (oa_cons (d_callF (ok_peaceful_next hd) hr (by decide) (a_cons (d_var 0) (a_cons (d_var 1) (a_cons (d_var 2) (a_cons (d_var 3) a_nil))))) (oa_cons (d_op2 op_addO rd_addO (r_var 4) (DP.pr d_int)) oa_nil))) (s_fz 3 (s_fz 4 s_nil)))) (s_one (s_ret (d_var 4))))))
theorem ok_most_at_peace (hd : Hd w K mg) : Fok P w K mg base 4 (PySem.Str.ofString "most_at_peace") [(PySem.Str.ofString "piece"), (PySem.Str.ofString "m"), (PySem.Str.ofString "n")] (spP K 3 F_most_at_peace) := by
  obtain ⟨fd, Fd⟩ := hd.fd_most_at_peace
  exact ⟨⟨fd, fn_most_at_peace hd Fd, Fd.bindsN fun _ _ _ _ _ _ us hl => match us, hl with | [_, _, _], _ => rfl⟩, hd.gl_most_at_peace, Fd.kp⟩
/-! ### _law_bishops_right -/
theorem sc__law_bishops_right : FnScope [(PySem.Str.ofString "n"), (PySem.Str.ofString "told"), (PySem.Str.ofString "lots"), (PySem.Str.ofString "lot"), (PySem.Str.ofString "inner"), (PySem.Str.ofString "r"), (PySem.Str.ofString "c")] [(PySem.Str.ofString "n")] (defScope (top 29)) := ⟨rfl, rfl, rfl, by decide +kernel, rfl, by decide +kernel, by decide +kernel⟩
def b__law_bishops_right : FS := (fSeq (fSet 1 (dCall 1 F_told_bishop_peace (aCons (frV 0) aNil))) (fSeq (fFz 1) (fSeq (fIf (bOr (bO (o2 neO (oL (g1 lenA) (lCons (rdV 1) lNil)) (dCall 1 F_bishop_peace (aCons (frV 0) aNil)))) (bO (o2 isnO (dCall 4 F_is_at_peace (aCons (kO (.str (PySem.Str.ofString "bishop"))) (aCons (frV 0) (aCons (frV 0) (aCons (frV 1) aNil))))) (kO (.bool true))))) (fRet (kO (.bool false))) fNx) (fSeq (fIf (bO (o2 gtA (rdV 0) (kO (.int 5)))) (fRet (kO (.bool true))) fNx) (fSeq (fSet 2 (oIf (bO (o2 gtA (rdV 0) (kO (.int 1)))) (dCall 3 F__law_slants (aCons (frV 0) (aCons (o2 subI (o2 mulO (kO (.int 2)) (rdV 0)) (kO (.int 2))) (aCons (kO (.int 1)) aNil)))) (dLst (aCons (dTup (aCons (dTup (aCons (kO (.int 0)) (aCons (kO (.int 0)) aNil))) aNil)) aNil)))) (fSeq (fFz 2) (fSeq (fIf (bOr (bO (o2 neO (oL (g1 lenA) (lCons (rdV 2) lNil)) (oIf (bO (o2 gtA (rdV 0) (kO (.int 1)))) (o2 shlI (kO (.int 1)) (rdV 0)) (kO (.int 1))))) (bO (o2 niA (rdV 1) (rdV 2)))) (fRet (kO (.bool false))) fNx) (fSeq (fFor (iSeq (dSl slO (rdV 2) oNone (oSome (kO (.int 12))))) (gN 3) (fIf (bO (o2 isnO (dCall 4 F_is_at_peace (aCons (kO (.str (PySem.Str.ofString "bishop"))) (aCons (frV 0) (aCons (frV 0) (aCons (frV 3) aNil))))) (kO (.bool true)))) (fRet (kO (.bool false))) fNx)) (fSeq (fSet 4 (dLst aNil)) (fSeq (fFz 4) (fSeq (fFor (iSeq (frV 2)) (gN 3) (fSeq (fSet 4 (o2 addO (rdV 4) (oLc 7 [5, 6] (iSeq (frV 3)) (gT 2 (gCons' (gN 5) (gCons' (gN 6) gNil'))) (bAnd (bO (oChain ltA ltA (kO (.int 0)) (rdV 5) (o2 subI (rdV 0) (kO (.int 1))))) (bO (oChain ltA ltA (kO (.int 0)) (rdV 6) (o2 subI (rdV 0) (kO (.int 1)))))) (kO (.int 1))))) (fSeq (fFz 4) fNx))) (fRet (oAnd (o2 eqO (rdV 4) (dLst aNil)) (o2 eqO (dCall 3 F__law_slants (aCons (frV 0) (aCons (o2 subI (o2 mulO (kO (.int 2)) (rdV 0)) (kO (.int 1))) (aCons (kO (.int 0)) aNil)))) (oIf (bO (o2 gtA (rdV 0) (kO (.int 1)))) (dLst aNil) (dLst (aCons (dTup (aCons (dTup (aCons (kO (.int 0)) (aCons (kO (.int 0)) aNil))) aNil)) aNil)))))))))))))))))
def c0__law_bishops_right : FS := (fSeq (fSet 1 (dCall 1 F_told_bishop_peace (aCons (frV 0) aNil))) (fSeq (fFz 1) (fSeq (fIf (bOr (bO (o2 neO (oL (g1 lenA) (lCons (rdV 1) lNil)) (dCall 1 F_bishop_peace (aCons (frV 0) aNil)))) (bO (o2 isnO (dCall 4 F_is_at_peace (aCons (kO (.str (PySem.Str.ofString "bishop"))) (aCons (frV 0) (aCons (frV 0) (aCons (frV 1) aNil))))) (kO (.bool true))))) (fRet (kO (.bool false))) fNx) (fIf (bO (o2 gtA (rdV 0) (kO (.int 5)))) (fRet (kO (.bool true))) fNx))))
def c1__law_bishops_right : FS := (fSet 2 (oIf (bO (o2 gtA (rdV 0) (kO (.int 1)))) (dCall 3 F__law_slants (aCons (frV 0) (aCons (o2 subI (o2 mulO (kO (.int 2)) (rdV 0)) (kO (.int 2))) (aCons (kO (.int 1)) aNil)))) (dLst (aCons (dTup (aCons (dTup (aCons (kO (.int 0)) (aCons (kO (.int 0)) aNil))) aNil)) aNil))))
def c2__law_bishops_right : FS := (fSeq (fFz 2) (fSeq (fIf (bOr (bO (o2 neO (oL (g1 lenA) (lCons (rdV 2) lNil)) (oIf (bO (o2 gtA (rdV 0) (kO (.int 1)))) (o2 shlI (kO (.int 1)) (rdV 0)) (kO (.int 1))))) (bO (o2 niA (rdV 1) (rdV 2)))) (fRet (kO (.bool false))) fNx) (fSeq (fFor (iSeq (dSl slO (rdV 2) oNone (oSome (kO (.int 12))))) (gN 3) (fIf (bO (o2 isnO (dCall 4 F_is_at_peace (aCons (kO (.str (PySem.Str.ofString "bishop"))) (aCons (frV 0) (aCons (frV 0) (aCons (frV 3) aNil))))) (kO (.bool true)))) (fRet (kO (.bool false))) fNx)) (fSeq (fSet 4 (dLst aNil)) (fSeq (fFz 4) (fFor (iSeq (frV 2)) (gN 3) (fSeq (fSet 4 (o2 addO (rdV 4) (oLc 7 [5, 6] (iSeq (frV 3)) (gT 2 (gCons' (gN 5) (gCons' (gN 6) gNil'))) (bAnd (bO (oChain ltA ltA (kO (.int 0)) (rdV 5) (o2 subI (rdV 0) (kO (.int 1))))) (bO (oChain ltA ltA (kO (.int 0)) (rdV 6) (o2 subI (rdV 0) (kO (.int 1)))))) (kO (.int 1))))) (fSeq (fFz 4) fNx))))))))
def c3__law_bishops_right : FS := (fRet (oAnd (o2 eqO (rdV 4) (dLst aNil)) (o2 eqO (dCall 3 F__law_slants (aCons (frV 0) (aCons (o2 subI (o2 mulO (kO (.int 2)) (rdV 0)) (kO (.int 1))) (aCons (kO (.int 0)) aNil)))) (oIf (bO (o2 gtA (rdV 0) (kO (.int 1)))) (dLst aNil) (dLst (aCons (dTup (aCons (dTup (aCons (kO (.int 0)) (aCons (kO (.int 0)) aNil))) aNil)) aNil))))))
theorem g__law_bishops_right : b__law_bishops_right = (fSeq c0__law_bishops_right (fSeq c1__law_bishops_right (fSeq c2__law_bishops_right c3__law_bishops_right))) := by
  simp only [b__law_bishops_right, c0__law_bishops_right, c1__law_bishops_right, c2__law_bishops_right, c3__law_bishops_right, fSeq_assoc]
def F__law_bishops_right : Fn := fnOf 7 b__law_bishops_right
theorem fn__law_bishops_right (hd : Hd w K mg) {fd : FuncData} (Fd : FunD K (PySem.Str.ofString "_law_bishops_right") (PySem.Str.ofString "_law_bishops_right") (defArgs (top 29)) (defBody (top 29)) (defScope (top 29)) [] [] (He.ga K (PySem.Str.ofString "_law_bishops_right")) fd) : FnOk P w K mg base CX0 4 (He.ga K (PySem.Str.ofString "_law_bishops_right")) fd [(PySem.Str.ofString "n")] (spP K 1 F__law_bishops_right) := by
  refine fn_ok Fd sc__law_bishops_right rfl rfl fun cdv A outer s H E hr => ?_
  have hu := hr.units
  have hND := sc__law_bishops_right.nd
  exact (s_cons (s_set 1 hND (d_callF (ok_told_bishop_peace hd) hr (by decide) (a_cons (d_var 0) a_nil))) (s_fz 1 (s_cons (s_if (t_w (w_or (t_cmp (op_neG hu) rd_ne (DP.pr (d_callB op_lenA rd_lenA rfl hd.fr_len PySem.boot_len (ra_cons (r_var 1) ra_nil))) (DP.pr (d_callF (ok_bishop_peace hd) hr (by decide) (a_cons (d_var 0) a_nil)))) (w_or1 (t_cmp op_isnA rd_isn (DP.pr (d_callF (ok_is_at_peace hd) hr (by decide) (a_cons d_str (a_cons (d_var 0) (a_cons (d_var 0) (a_cons (d_var 1) a_nil)))))) (DP.pr d_bl))))) (s_one (s_ret d_bl)) s_nil) (s_cons (s_if (t_cmp (op_gtA hu) rd_gtA (r_var 0) (DP.pr d_int)) (s_one (s_ret d_bl)) s_nil) (s_cons (s_set 2 hND (d_if (t_cmp (op_gtA hu) rd_gtA (r_var 0) (DP.pr d_int)) (d_callF (ok__law_slants hd) hr (by decide) (a_cons (d_var 0) (a_cons (d_op2 op_sub rd_sub (DP.pr (d_op2 op_mulO rd_mulO (DP.pr d_int) (r_var 0))) (DP.pr d_int)) (a_cons d_int a_nil)))) (d_lst (a_cons (d_tup (a_cons (d_tup (a_cons d_int (a_cons d_int a_nil))) a_nil)) a_nil)))) (s_fz 2 (s_cons (s_if (t_w (w_or (t_cmp (op_neG hu) rd_ne (DP.pr (d_callB op_lenA rd_lenA rfl hd.fr_len PySem.boot_len (ra_cons (r_var 2) ra_nil))) (DP.pr (d_if (t_cmp (op_gtA hu) rd_gtA (r_var 0) (DP.pr d_int)) (d_op2 op_shl rd_shl (DP.pr d_int) (r_var 0)) d_int))) (w_or1 (t_cmp (op_niB hu) rd_niB (r_var 1) (r_var 2))))) (s_one (s_ret d_bl)) s_nil) (s_cons (s_for PassesOwn.never rfl (i_seq (d_sl (r_var 2) p_none (p_some (DP.pr d_int)))) (g_name 3 hND) (s_one (s_if (t_cmp op_isnA rd_isn (DP.pr (d_callF (ok_is_at_peace hd) hr (by decide) (a_cons d_str (a_cons (d_var 0) (a_cons (d_var 0) (a_cons (d_var 3) a_nil)))))) (DP.pr d_bl)) (s_one (s_ret d_bl)) s_nil))) (s_cons (s_set 4 hND (d_lst a_nil)) (s_fz 4 (s_cons (s_for PassesOwn.never rfl (i_seq (d_var 2)) (g_name 3 hND) (s_cons (s_set 4 hND (d_op2 op_addO rd_addO (r_var 4) (DP.pr (d_lc (n := 7) [((PySem.Str.ofString "r"), 5), ((PySem.Str.ofString "c"), 6)] rfl hND (i_seq (d_var 3)) (blkOk_by (by kernel_rfl)) (fun _ _ _ _ _ => (g_tup rfl (g_cons (g_name 5 hND) (g_cons (g_name 6 hND) g_nil)))) (fun _ _ _ _ _ => (ts_one (t_w (w_and (t_chain (op_ltA hu) rd_ltA (op_ltA hu) rd_ltA (DP.pr d_int) (r_var 5) (DP.pr (d_op2 op_sub rd_sub (r_var 0) (DP.pr d_int)))) (w_and1 (t_chain (op_ltA hu) rd_ltA (op_ltA hu) rd_ltA (DP.pr d_int) (r_var 6) (DP.pr (d_op2 op_sub rd_sub (r_var 0) (DP.pr d_int))))))))) (fun _ _ _ _ _ => d_int))))) (s_fz 4 s_nil))) (s_one (s_ret (d_and (d_cmp (op_eqG hu) rd_eq (r_var 4) (DP.pr (d_lst a_nil))) (d_one (d_cmp (op_eqG hu) rd_eq (DP.pr (d_callF (ok__law_slants hd) hr (by decide) (a_cons (d_var 0) (a_cons (d_op2 op_sub rd_sub (DP.pr (d_op2 op_mulO rd_mulO (DP.pr d_int) (r_var 0))) (DP.pr d_int)) (a_cons d_int a_nil))))) (DP.pr (d_if (t_cmp (op_gtA hu) rd_gtA (r_var 0) (DP.pr d_int)) (d_lst a_nil) (d_lst (a_cons (d_tup (a_cons (d_tup (a_cons d_int (a_cons d_int a_nil))) a_nil)) a_nil))))))))))))))))))))
theorem ok__law_bishops_right (hd : Hd w K mg) : Fok P w K mg base 4 (PySem.Str.ofString "_law_bishops_right") [(PySem.Str.ofString "n")] (spP K 1 F__law_bishops_right) := by
  obtain ⟨fd, Fd⟩ := hd.fd__law_bishops_right
  exact ⟨⟨fd, fn__law_bishops_right hd Fd, Fd.bindsN fun _ _ _ _ _ _ us hl => match us, hl with | [_], _ => rfl⟩, hd.gl__law_bishops_right, Fd.kp⟩
/-! ### _law_queens_right -/
theorem sc__law_queens_right : FnScope [(PySem.Str.ofString "source"), (PySem.Str.ofString "q"), (PySem.Str.ofString "lot"), (PySem.Str.ofString "few"), (PySem.Str.ofString "rows"), (PySem.Str.ofString "row"), (PySem.Str.ofString "r"), (PySem.Str.ofString "c"), (PySem.Str.ofString "piece")] [(PySem.Str.ofString "source")] (defScope (top 32)) := ⟨rfl, rfl, rfl, by decide +kernel, rfl, by decide +kernel, by decide +kernel⟩
def b__law_queens_right : FS := (fSeq (fSetE 1 (e2O addO (eP (kO (.int 4))) (eCallB 0 1 F__law_pick (eaCons (eP (kO (.int 5))) eaNil)))) (fSeq (fFz 1) (fSeq (fSet 2 (oL (g1 tupO) (lCons (oLc 9 [6, 7] (iEnumD (aCons (dCall 1 F__law_pauls (aCons (frV 1) aNil)) aNil)) (gT 2 (gCons' (gN 6) (gCons' (gN 7) gNil'))) bYes (dTup (aCons (frV 6) (aCons (frV 7) aNil)))) lNil))) (fSeq (fIf (bOr (bO (o2 neO (oL (g1 sortA) (lCons (oLc 9 [6, 7] (iSeq (frV 2)) (gT 2 (gCons' (gN 6) (gCons' (gN 7) gNil'))) bYes (frV 7)) lNil)) (dLRg (rg1 (rdV 1))))) (bO (o2 isnO (dCall 4 F_is_at_peace (aCons (kO (.str (PySem.Str.ofString "queen"))) (aCons (frV 1) (aCons (frV 1) (aCons (frV 2) aNil))))) (kO (.bool true))))) (fRet (kO (.bool false))) fNx) (fSeq (fSetE 3 (e2O addO (eP (kO (.int 1))) (eCallB 0 1 F__law_pick (eaCons (eP (kO (.int 6))) eaNil)))) (fSeq (fFz 3) (fSeq (fSet 4 (dCall 1 F__law_queens (aCons (frV 3) aNil))) (fSeq (fFz 4) (fSeq (fIf (bO (o2 neO (oL (g1 lenA) (lCons (rdV 4) lNil)) (o2 ixA (dLst (aCons (kO (.int 1)) (aCons (kO (.int 0)) (aCons (kO (.int 0)) (aCons (kO (.int 2)) (aCons (kO (.int 10)) (aCons (kO (.int 4)) aNil))))))) (o2 subI (rdV 3) (kO (.int 1)))))) (fRet (kO (.bool false))) fNx) (fSeq (fFor (iSeq (dSl slO (rdV 4) oNone (oSome (kO (.int 4))))) (gN 5) (fSeq (fSet 2 (oL (g1 tupO) (lCons (oLc 9 [6, 7] (iEnumD (aCons (frV 5) aNil)) (gT 2 (gCons' (gN 6) (gCons' (gN 7) gNil'))) bYes (dTup (aCons (frV 6) (aCons (frV 7) aNil)))) lNil))) (fIf (bO (o2 neO (oLc 9 [8] (iSeq (dTup (aCons (kO (.str (PySem.Str.ofString "queen"))) (aCons (kO (.str (PySem.Str.ofString "rook"))) (aCons (kO (.str (PySem.Str.ofString "bishop"))) aNil))))) (gN 8) (bO (o2 isnO (dCall 4 F_is_at_peace (aCons (frV 8) (aCons (frV 3) (aCons (frV 3) (aCons (frV 2) aNil))))) (kO (.bool true)))) (frV 8)) (dLst aNil))) (fRet (kO (.bool false))) fNx))) (fRet (kO (.bool true)))))))))))))
def c0__law_queens_right : FS := (fSetE 1 (e2O addO (eP (kO (.int 4))) (eCallB 0 1 F__law_pick (eaCons (eP (kO (.int 5))) eaNil))))
def c1__law_queens_right : FS := (fSeq (fFz 1) (fSeq (fSet 2 (oL (g1 tupO) (lCons (oLc 9 [6, 7] (iEnumD (aCons (dCall 1 F__law_pauls (aCons (frV 1) aNil)) aNil)) (gT 2 (gCons' (gN 6) (gCons' (gN 7) gNil'))) bYes (dTup (aCons (frV 6) (aCons (frV 7) aNil)))) lNil))) (fIf (bOr (bO (o2 neO (oL (g1 sortA) (lCons (oLc 9 [6, 7] (iSeq (frV 2)) (gT 2 (gCons' (gN 6) (gCons' (gN 7) gNil'))) bYes (frV 7)) lNil)) (dLRg (rg1 (rdV 1))))) (bO (o2 isnO (dCall 4 F_is_at_peace (aCons (kO (.str (PySem.Str.ofString "queen"))) (aCons (frV 1) (aCons (frV 1) (aCons (frV 2) aNil))))) (kO (.bool true))))) (fRet (kO (.bool false))) fNx)))
def c2__law_queens_right : FS := (fSetE 3 (e2O addO (eP (kO (.int 1))) (eCallB 0 1 F__law_pick (eaCons (eP (kO (.int 6))) eaNil))))
def c3__law_queens_right : FS := (fSeq (fFz 3) (fSeq (fSet 4 (dCall 1 F__law_queens (aCons (frV 3) aNil))) (fSeq (fFz 4) (fSeq (fIf (bO (o2 neO (oL (g1 lenA) (lCons (rdV 4) lNil)) (o2 ixA (dLst (aCons (kO (.int 1)) (aCons (kO (.int 0)) (aCons (kO (.int 0)) (aCons (kO (.int 2)) (aCons (kO (.int 10)) (aCons (kO (.int 4)) aNil))))))) (o2 subI (rdV 3) (kO (.int 1)))))) (fRet (kO (.bool false))) fNx) (fSeq (fFor (iSeq (dSl slO (rdV 4) oNone (oSome (kO (.int 4))))) (gN 5) (fSeq (fSet 2 (oL (g1 tupO) (lCons (oLc 9 [6, 7] (iEnumD (aCons (frV 5) aNil)) (gT 2 (gCons' (gN 6) (gCons' (gN 7) gNil'))) bYes (dTup (aCons (frV 6) (aCons (frV 7) aNil)))) lNil))) (fIf (bO (o2 neO (oLc 9 [8] (iSeq (dTup (aCons (kO (.str (PySem.Str.ofString "queen"))) (aCons (kO (.str (PySem.Str.ofString "rook"))) (aCons (kO (.str (PySem.Str.ofString "bishop"))) aNil))))) (gN 8) (bO (o2 isnO (dCall 4 F_is_at_peace (aCons (frV 8) (aCons (frV 3) (aCons (frV 3) (aCons (frV 2) aNil))))) (kO (.bool true)))) (frV 8)) (dLst aNil))) (fRet (kO (.bool false))) fNx))) (fRet (kO (.bool true))))))))
theorem g__law_queens_right : b__law_queens_right = (fSeq c0__law_queens_right (fSeq c1__law_queens_right (fSeq c2__law_queens_right c3__law_queens_right))) := by
  simp only [b__law_queens_right, c0__law_queens_right, c1__law_queens_right, c2__law_queens_right, c3__law_queens_right, fSeq_assoc]
def F__law_queens_right : FnB := fnOfB 9 b__law_queens_right
theorem fn__law_queens_right (hd : Hd w K mg) {fd : FuncData} (Fd : FunD K (PySem.Str.ofString "_law_queens_right") (PySem.Str.ofString "_law_queens_right") (defArgs (top 32)) (defBody (top 32)) (defScope (top 32)) [] [] (He.ga K (PySem.Str.ofString "_law_queens_right")) fd) : FnOk P w K mg base CX0 4 (He.ga K (PySem.Str.ofString "_law_queens_right")) fd [(PySem.Str.ofString "source")] (spB K 0 F__law_queens_right) := by
  refine fn_okB Fd sc__law_queens_right rfl rfl fun cdv A outer s H E hr => ?_
  have hu := hr.units
  have hND := sc__law_queens_right.nd
  exact (s_cons (s_setE 1 hND (e_op2 op_addO rd_addO (e_p d_int) (e_lentF 0 (ok__law_pick hd) hr (by decide) (ea_cons (e_p d_int) ea_nil)))) (s_fz 1 (s_cons (s_set 2 hND (d_callTy call_tuple_of rd_tuple rfl hd.fr_tuple boot_tuple (ra_cons (DP.pr (d_lc (n := 9) [((PySem.Str.ofString "r"), 6), ((PySem.Str.ofString "c"), 7)] rfl hND (i_enum rfl hd.fr_enumerate (a_cons (d_callF (ok__law_pauls hd) hr (by decide) (a_cons (d_var 1) a_nil)) a_nil)) (blkOk_by (by kernel_rfl)) (fun _ _ _ _ _ => (g_tup rfl (g_cons (g_name 6 hND) (g_cons (g_name 7 hND) g_nil)))) (fun _ _ _ _ _ => ts_nil) (fun _ _ _ _ _ => (d_tup (a_cons (d_var 6) (a_cons (d_var 7) a_nil)))))) ra_nil))) (s_cons (s_if (t_w (w_or (t_cmp (op_neG hu) rd_ne (DP.pr (d_callB (op_sortAll rfl hu) rd_sortAll rfl hd.fr_sorted boot_sorted (ra_cons (DP.pr (d_lc (n := 9) [((PySem.Str.ofString "r"), 6), ((PySem.Str.ofString "c"), 7)] rfl hND (i_seq (d_var 2)) (blkOk_by (by kernel_rfl)) (fun _ _ _ _ _ => (g_tup rfl (g_cons (g_name 6 hND) (g_cons (g_name 7 hND) g_nil)))) (fun _ _ _ _ _ => ts_nil) (fun _ _ _ _ _ => (d_var 7)))) ra_nil))) (DP.pr (d_listRg rfl rfl hd.fr_list (rg_1 rfl hd.fr_range (r_var 1))))) (w_or1 (t_cmp op_isnA rd_isn (DP.pr (d_callF (ok_is_at_peace hd) hr (by decide) (a_cons d_str (a_cons (d_var 1) (a_cons (d_var 1) (a_cons (d_var 2) a_nil)))))) (DP.pr d_bl))))) (s_one (s_ret d_bl)) s_nil) (s_cons (s_setE 3 hND (e_op2 op_addO rd_addO (e_p d_int) (e_lentF 0 (ok__law_pick hd) hr (by decide) (ea_cons (e_p d_int) ea_nil)))) (s_fz 3 (s_cons (s_set 4 hND (d_callF (ok__law_queens hd) hr (by decide) (a_cons (d_var 3) a_nil))) (s_fz 4 (s_cons (s_if (t_cmp (op_neG hu) rd_ne (DP.pr (d_callB op_lenA rd_lenA rfl hd.fr_len PySem.boot_len (ra_cons (r_var 4) ra_nil))) (d_ixR hu (DP.pr (d_lst (a_cons d_int (a_cons d_int (a_cons d_int (a_cons d_int (a_cons d_int (a_cons d_int a_nil)))))))) (DP.pr (d_op2 op_sub rd_sub (r_var 3) (DP.pr d_int))))) (s_one (s_ret d_bl)) s_nil) (s_cons (s_for PassesOwn.never rfl (i_seq (d_sl (r_var 4) p_none (p_some (DP.pr d_int)))) (g_name 5 hND) (s_cons (s_set 2 hND (d_callTy call_tuple_of rd_tuple rfl hd.fr_tuple boot_tuple (ra_cons (DP.pr (d_lc (n := 9) [((PySem.Str.ofString "r"), 6), ((PySem.Str.ofString "c"), 7)] rfl hND (i_enum rfl hd.fr_enumerate (a_cons (d_var 5) a_nil)) (blkOk_by (by kernel_rfl)) (fun _ _ _ _ _ => (g_tup rfl (g_cons (g_name 6 hND) (g_cons (g_name 7 hND) g_nil)))) (fun _ _ _ _ _ => ts_nil) (fun _ _ _ _ _ => (d_tup (a_cons (d_var 6) (a_cons (d_var 7) a_nil)))))) ra_nil))) (s_one (s_if (t_cmp (op_neG hu) rd_ne (DP.pr (d_lc (n := 9) [((PySem.Str.ofString "piece"), 8)] rfl hND (i_seq (d_tup (a_cons d_str (a_cons d_str (a_cons d_str a_nil))))) (blkOk_by (by kernel_rfl)) (fun _ _ _ _ _ => (g_name 8 hND)) (fun _ _ _ _ _ => (ts_one (t_cmp op_isnA rd_isn (DP.pr (d_callF (ok_is_at_peace hd) hr (by decide) (a_cons (d_var 8) (a_cons (d_var 3) (a_cons (d_var 3) (a_cons (d_var 2) a_nil)))))) (DP.pr d_bl)))) (fun _ _ _ _ _ => (d_var 8)))) (DP.pr (d_lst a_nil))) (s_one (s_ret d_bl)) s_nil)))) (s_one (s_ret d_bl))))))))))))
theorem ok__law_queens_right (hd : Hd w K mg) : Fok P w K mg base 4 (PySem.Str.ofString "_law_queens_right") [(PySem.Str.ofString "source")] (spB K 0 F__law_queens_right) := by
  obtain ⟨fd, Fd⟩ := hd.fd__law_queens_right
  exact ⟨⟨fd, fn__law_queens_right hd Fd, Fd.bindsN fun _ _ _ _ _ _ us hl => match us, hl with | [_], _ => rfl⟩, hd.gl__law_queens_right, Fd.kp⟩
/-! ### _law_blocks_right -/
theorem sc__law_blocks_right : FnScope [(PySem.Str.ofString "source"), (PySem.Str.ofString "n"), (PySem.Str.ofString "column"), (PySem.Str.ofString "even"), (PySem.Str.ofString "odd"), (PySem.Str.ofString "a"), (PySem.Str.ofString "block"), (PySem.Str.ofString "r"), (PySem.Str.ofString "c")] [(PySem.Str.ofString "source"), (PySem.Str.ofString "n")] (defScope (top 31)) := ⟨rfl, rfl, rfl, by decide +kernel, rfl, by decide +kernel, by decide +kernel⟩
def b__law_blocks_right : FS := (fSeq (fSet 2 (dCall 1 F_told_bishops (aCons (frV 1) aNil))) (fSeq (fFz 2) (fSeq (fIf (bOr (bO (o2 neO (oL (g1 lenA) (lCons (rdV 2) lNil)) (dCall 1 F_bishop_number (aCons (frV 1) aNil)))) (bO (o2 isnO (dCall 4 F_is_watching_board (aCons (kO (.str (PySem.Str.ofString "bishop"))) (aCons (frV 1) (aCons (frV 1) (aCons (frV 2) aNil))))) (kO (.bool true))))) (fRet (kO (.bool false))) fNx) (fSeq (fTgE (eP (dCall 1 F_sign_bounds (aCons (frV 1) aNil))) (gT 2 (gCons' (gN 3) (gCons' (gN 4) gNil')))) (fSeq (fSetE 5 (eCallB 0 1 F__law_pick (eaCons (eP (frV 1)) eaNil))) (fSeq (fSet 6 (dCall 2 F_bishop_block (aCons (frV 1) (aCons (frV 5) aNil)))) (fSeq (fFz 6) (fSeq (fIf (bOr (bO (o2 neO (o2 addO (rdV 3) (rdV 4)) (rdV 1))) (bO (o2 neO (oL (g1 lenA) (lCons (rdV 6) lNil)) (o2 mulO (o2 addO (rdV 5) (kO (.int 1))) (o2 subI (rdV 1) (rdV 5)))))) (fRet (kO (.bool false))) fNx) (fRet (o2 eqO (oL (g1 lenA) (lCons (oL (g1 dictO) (lCons (oLc 9 [7, 8] (iSeq (frV 6)) (gT 2 (gCons' (gN 7) (gCons' (gN 8) gNil'))) bYes (dTup (aCons (o2 modI (oL (g1 intO) (lCons (o2 addO (rdV 7) (rdV 8)) lNil)) (kO (.int 2))) (aCons (kO (.int 0)) aNil)))) lNil)) lNil)) (kO (.int 1))))))))))))
def c0__law_blocks_right : FS := (fSeq (fSet 2 (dCall 1 F_told_bishops (aCons (frV 1) aNil))) (fSeq (fFz 2) (fSeq (fIf (bOr (bO (o2 neO (oL (g1 lenA) (lCons (rdV 2) lNil)) (dCall 1 F_bishop_number (aCons (frV 1) aNil)))) (bO (o2 isnO (dCall 4 F_is_watching_board (aCons (kO (.str (PySem.Str.ofString "bishop"))) (aCons (frV 1) (aCons (frV 1) (aCons (frV 2) aNil))))) (kO (.bool true))))) (fRet (kO (.bool false))) fNx) (fTgE (eP (dCall 1 F_sign_bounds (aCons (frV 1) aNil))) (gT 2 (gCons' (gN 3) (gCons' (gN 4) gNil')))))))
def c1__law_blocks_right : FS := (fSetE 5 (eCallB 0 1 F__law_pick (eaCons (eP (frV 1)) eaNil)))
def c2__law_blocks_right : FS := (fSeq (fSet 6 (dCall 2 F_bishop_block (aCons (frV 1) (aCons (frV 5) aNil)))) (fSeq (fFz 6) (fSeq (fIf (bOr (bO (o2 neO (o2 addO (rdV 3) (rdV 4)) (rdV 1))) (bO (o2 neO (oL (g1 lenA) (lCons (rdV 6) lNil)) (o2 mulO (o2 addO (rdV 5) (kO (.int 1))) (o2 subI (rdV 1) (rdV 5)))))) (fRet (kO (.bool false))) fNx) (fRet (o2 eqO (oL (g1 lenA) (lCons (oL (g1 dictO) (lCons (oLc 9 [7, 8] (iSeq (frV 6)) (gT 2 (gCons' (gN 7) (gCons' (gN 8) gNil'))) bYes (dTup (aCons (o2 modI (oL (g1 intO) (lCons (o2 addO (rdV 7) (rdV 8)) lNil)) (kO (.int 2))) (aCons (kO (.int 0)) aNil)))) lNil)) lNil)) (kO (.int 1)))))))
theorem g__law_blocks_right : b__law_blocks_right = (fSeq c0__law_blocks_right (fSeq c1__law_blocks_right c2__law_blocks_right)) := by
  simp only [b__law_blocks_right, c0__law_blocks_right, c1__law_blocks_right, c2__law_blocks_right, fSeq_assoc]
def F__law_blocks_right : FnB := fnOfB 9 b__law_blocks_right
theorem fn__law_blocks_right (hd : Hd w K mg) {fd : FuncData} (Fd : FunD K (PySem.Str.ofString "_law_blocks_right") (PySem.Str.ofString "_law_blocks_right") (defArgs (top 31)) (defBody (top 31)) (defScope (top 31)) [] [] (He.ga K (PySem.Str.ofString "_law_blocks_right")) fd) : FnOk P w K mg base CX0 5 (He.ga K (PySem.Str.ofString "_law_blocks_right")) fd [(PySem.Str.ofString "source"), (PySem.Str.ofString "n")] (spB K 1 F__law_blocks_right) := by
  refine fn_okB Fd sc__law_blocks_right rfl rfl fun cdv A outer s H E hr => ?_
  have hu := hr.units
  have hND := sc__law_blocks_right.nd
  exact (s_cons (s_set 2 hND (d_callF (ok_told_bishops hd) hr (by decide) (a_cons (d_var 1) a_nil))) (s_fz 2 (s_cons (s_if (t_w (w_or (t_cmp (op_neG hu) rd_ne (DP.pr (d_callB op_lenA rd_lenA rfl hd.fr_len PySem.boot_len (ra_cons (r_var 2) ra_nil))) (DP.pr (d_callF (ok_bishop_number hd) hr (by decide) (a_cons (d_var 1) a_nil)))) (w_or1 (t_cmp op_isnA rd_isn (DP.pr (d_callF (ok_is_watching_board hd) hr (by decide) (a_cons d_str (a_cons (d_var 1) (a_cons (d_var 1) (a_cons (d_var 2) a_nil)))))) (DP.pr d_bl))))) (s_one (s_ret d_bl)) s_nil) (s_cons (s_tgE (e_p (d_callF (ok_sign_bounds hd) hr (by decide) (a_cons (d_var 1) a_nil))) (g_tup rfl (g_cons (g_name 3 hND) (g_cons (g_name 4 hND) g_nil)))) (s_cons (s_setE 5 hND (e_lentF 0 (ok__law_pick hd) hr (by decide) (ea_cons (e_p (d_var 1)) ea_nil))) (s_cons (s_set 6 hND (d_callF (ok_bishop_block hd) hr (by decide) (a_cons (d_var 1) (a_cons (d_var 5) a_nil)))) (s_fz 6 (s_cons (s_if (t_w (w_or (t_cmp (op_neG hu) rd_ne (DP.pr (d_op2 op_addO rd_addO (r_var 3) (r_var 4))) (r_var 1)) (w_or1 (t_cmp (op_neG hu) rd_ne (DP.pr (d_callB op_lenA rd_lenA rfl hd.fr_len PySem.boot_len (ra_cons (r_var 6) ra_nil))) (DP.pr (d_op2 op_mulO rd_mulO (DP.pr (d_op2 op_addO rd_addO (r_var 5) (DP.pr d_int))) (DP.pr (d_op2 op_sub rd_sub (r_var 1) (r_var 5))))))))) (s_one (s_ret d_bl)) s_nil) (s_one (s_ret (d_cmp (op_eqG hu) rd_eq (DP.pr (d_callB op_lenA rd_lenA rfl hd.fr_len PySem.boot_len (ra_cons (DP.pr (d_callTy (op_dictA rfl hu) rd_dictA rfl hd.fr_dict boot_dict (ra_cons (DP.pr (d_lc (n := 9) [((PySem.Str.ofString "r"), 7), ((PySem.Str.ofString "c"), 8)] rfl hND (i_seq (d_var 6)) (blkOk_by (by kernel_rfl)) (fun _ _ _ _ _ => (g_tup rfl (g_cons (g_name 7 hND) (g_cons (g_name 8 hND) g_nil)))) (fun _ _ _ _ _ => ts_nil) (fun _ _ _ _ _ => (d_tup (a_cons (d_op2 op_mod rd_mod (DP.pr (d_callTy call_int1 rd_int rfl hd.fr_int boot_int (ra_cons (DP.pr (d_op2 op_addO rd_addO (r_var 7) (r_var 8))) ra_nil))) (DP.pr d_int)) (a_cons d_int a_nil)))))) ra_nil))) ra_nil))) (DP.pr d_int))))))))))))
theorem ok__law_blocks_right (hd : Hd w K mg) : Fok P w K mg base 5 (PySem.Str.ofString "_law_blocks_right") [(PySem.Str.ofString "source"), (PySem.Str.ofString "n")] (spB K 1 F__law_blocks_right) := by
  obtain ⟨fd, Fd⟩ := hd.fd__law_blocks_right
  exact ⟨⟨fd, fn__law_blocks_right hd Fd, Fd.bindsN fun _ _ _ _ _ _ us hl => match us, hl with | [_, _], _ => rfl⟩, hd.gl__law_blocks_right, Fd.kp⟩
/-! ### _law_knights_right -/
theorem sc__law_knights_right : FnScope [(PySem.Str.ofString "source"), (PySem.Str.ofString "n"), (PySem.Str.ofString "m"), (PySem.Str.ofString "k"), (PySem.Str.ofString "low"), (PySem.Str.ofString "high"), (PySem.Str.ofString "due"), (PySem.Str.ofString "sign"), (PySem.Str.ofString "lot"), (PySem.Str.ofString "some"), (PySem.Str.ofString "kings"), (PySem.Str.ofString "r"), (PySem.Str.ofString "c")] [(PySem.Str.ofString "source"), (PySem.Str.ofString "n")] (defScope (top 33)) := ⟨rfl, rfl, rfl, by decide +kernel, rfl, by decide +kernel, by decide +kernel⟩
def b__law_knights_right : FS := (fSeq (fTgE (eCallB 0 1 F__law_of (eaCons (eP (dLst (aCons (dTup (aCons (kO (.int 1)) (aCons (kO (.int 5)) aNil))) (aCons (dTup (aCons (kO (.int 1)) (aCons (kO (.int 8)) aNil))) (aCons (dTup (aCons (kO (.int 2)) (aCons (kO (.int 2)) aNil))) (aCons (dTup (aCons (kO (.int 2)) (aCons (kO (.int 3)) aNil))) (aCons (dTup (aCons (kO (.int 2)) (aCons (kO (.int 4)) aNil))) (aCons (dTup (aCons (kO (.int 2)) (aCons (kO (.int 5)) aNil))) (aCons (dTup (aCons (kO (.int 2)) (aCons (kO (.int 6)) aNil))) (aCons (dTup (aCons (kO (.int 3)) (aCons (kO (.int 3)) aNil))) (aCons (dTup (aCons (kO (.int 3)) (aCons (kO (.int 4)) aNil))) (aCons (dTup (aCons (kO (.int 4)) (aCons (kO (.int 3)) aNil))) aNil)))))))))))) eaNil)) (gT 2 (gCons' (gN 2) (gCons' (gN 3) gNil')))) (fSeq (fPar [4, 5] (lCons (oL (g2 min2O) (lCons (rdV 2) (lCons (rdV 3) lNil))) (lCons (oL (g2 max2O) (lCons (rdV 2) (lCons (rdV 3) lNil))) lNil))) (fSeq (fSet 6 (oIf (bO (o2 eqO (rdV 4) (kO (.int 1)))) (frV 5) (oIf (bO (o2 eqO (rdV 4) (kO (.int 2)))) (o2 addO (o2 mulO (o2 divI (rdV 5) (kO (.int 4))) (kO (.int 4))) (oL (g2 min2O) (lCons (kO (.int 4)) (lCons (o2 mulO (kO (.int 2)) (o2 modI (oL (g1 intO) (lCons (rdV 5) lNil)) (kO (.int 4)))) lNil)))) (o2 divI (o2 addO (o2 mulO (rdV 4) (rdV 5)) (kO (.int 1))) (kO (.int 2)))))) (fSeq (fFz 6) (fSeq (fIf (bOr (bO (o2 neO (oL (g1 reprO) (lCons (dCall 3 F_most_at_peace (aCons (kO (.str (PySem.Str.ofString "knight"))) (aCons (frV 2) (aCons (frV 3) aNil)))) lNil)) (oL (g1 reprO) (lCons (rdV 6) lNil)))) (bO (o2 neO (dCall 3 F_most_at_peace (aCons (kO (.str (PySem.Str.ofString "king"))) (aCons (frV 2) (aCons (frV 3) aNil)))) (dCall 2 F_king_peace (aCons (frV 2) (aCons (frV 3) aNil)))))) (fRet (kO (.bool false))) fNx) (fSeq (fSetE 7 (eCallB 0 1 F__law_pick (eaCons (eP (kO (.int 2))) eaNil))) (fSeq (fSet 8 (oL (g1 tupO) (lCons (oL (g1 sortA) (lCons (oLc 13 [11, 12] (iSeq (dCall 2 F__law_squares (aCons (frV 1) (aCons (frV 1) aNil)))) (gT 2 (gCons' (gN 11) (gCons' (gN 12) gNil'))) (bO (o2 eqO (o2 modI (oL (g1 intO) (lCons (o2 addO (rdV 11) (rdV 12)) lNil)) (kO (.int 2))) (rdV 7))) (dTup (aCons (frV 11) (aCons (frV 12) aNil)))) lNil)) lNil))) (fSeq (fSet 9 (dCall 4 F_reached_squares (aCons (kO (.str (PySem.Str.ofString "knight"))) (aCons (frV 1) (aCons (frV 1) (aCons (dTup (aCons (o2 divI (rdV 1) (kO (.int 2))) (aCons (o2 divI (rdV 1) (kO (.int 2))) aNil))) aNil)))))) (fSeq (fFz 9) (fSeq (fIf (bOr (bO (o2 isnO (dCall 4 F_is_at_peace (aCons (kO (.str (PySem.Str.ofString "knight"))) (aCons (frV 1) (aCons (frV 1) (aCons (frV 8) aNil))))) (kO (.bool true)))) (bO (o2 neO (oLc 13 [11, 12] (iSeq (frV 9)) (gT 2 (gCons' (gN 11) (gCons' (gN 12) gNil'))) (bO (o2 eqO (o2 modI (oL (g1 intO) (lCons (o2 addO (rdV 11) (rdV 12)) lNil)) (kO (.int 2))) (kO (.int 0)))) (kO (.int 1))) (dLst aNil)))) (fRet (kO (.bool false))) fNx) (fSeq (fSet 10 (dCall 2 F_told_king_peace (aCons (frV 1) (aCons (frV 1) aNil)))) (fSeq (fFz 10) (fRet (oAnd (o2 eqO (oL (g1 lenA) (lCons (dCall 4 F_watched_squares (aCons (kO (.str (PySem.Str.ofString "king"))) (aCons (frV 1) (aCons (frV 1) (aCons (frV 10) aNil))))) lNil)) (o2 mulO (rdV 1) (rdV 1))) (o2 isO (dCall 4 F_is_at_peace (aCons (kO (.str (PySem.Str.ofString "king"))) (aCons (frV 1) (aCons (frV 1) (aCons (frV 10) aNil))))) (kO (.bool true)))))))))))))))))
def c0__law_knights_right : FS := (fTgE (eCallB 0 1 F__law_of (eaCons (eP (dLst (aCons (dTup (aCons (kO (.int 1)) (aCons (kO (.int 5)) aNil))) (aCons (dTup (aCons (kO (.int 1)) (aCons (kO (.int 8)) aNil))) (aCons (dTup (aCons (kO (.int 2)) (aCons (kO (.int 2)) aNil))) (aCons (dTup (aCons (kO (.int 2)) (aCons (kO (.int 3)) aNil))) (aCons (dTup (aCons (kO (.int 2)) (aCons (kO (.int 4)) aNil))) (aCons (dTup (aCons (kO (.int 2)) (aCons (kO (.int 5)) aNil))) (aCons (dTup (aCons (kO (.int 2)) (aCons (kO (.int 6)) aNil))) (aCons (dTup (aCons (kO (.int 3)) (aCons (kO (.int 3)) aNil))) (aCons (dTup (aCons (kO (.int 3)) (aCons (kO (.int 4)) aNil))) (aCons (dTup (aCons (kO (.int 4)) (aCons (kO (.int 3)) aNil))) aNil)))))))))))) eaNil)) (gT 2 (gCons' (gN 2) (gCons' (gN 3) gNil'))))
def c1__law_knights_right : FS := (fSeq (fPar [4, 5] (lCons (oL (g2 min2O) (lCons (rdV 2) (lCons (rdV 3) lNil))) (lCons (oL (g2 max2O) (lCons (rdV 2) (lCons (rdV 3) lNil))) lNil))) (fSeq (fSet 6 (oIf (bO (o2 eqO (rdV 4) (kO (.int 1)))) (frV 5) (oIf (bO (o2 eqO (rdV 4) (kO (.int 2)))) (o2 addO (o2 mulO (o2 divI (rdV 5) (kO (.int 4))) (kO (.int 4))) (oL (g2 min2O) (lCons (kO (.int 4)) (lCons (o2 mulO (kO (.int 2)) (o2 modI (oL (g1 intO) (lCons (rdV 5) lNil)) (kO (.int 4)))) lNil)))) (o2 divI (o2 addO (o2 mulO (rdV 4) (rdV 5)) (kO (.int 1))) (kO (.int 2)))))) (fSeq (fFz 6) (fIf (bOr (bO (o2 neO (oL (g1 reprO) (lCons (dCall 3 F_most_at_peace (aCons (kO (.str (PySem.Str.ofString "knight"))) (aCons (frV 2) (aCons (frV 3) aNil)))) lNil)) (oL (g1 reprO) (lCons (rdV 6) lNil)))) (bO (o2 neO (dCall 3 F_most_at_peace (aCons (kO (.str (PySem.Str.ofString "king"))) (aCons (frV 2) (aCons (frV 3) aNil)))) (dCall 2 F_king_peace (aCons (frV 2) (aCons (frV 3) aNil)))))) (fRet (kO (.bool false))) fNx))))
def c2__law_knights_right : FS := (fSetE 7 (eCallB 0 1 F__law_pick (eaCons (eP (kO (.int 2))) eaNil)))
def c3__law_knights_right : FS := (fSeq (fSet 8 (oL (g1 tupO) (lCons (oL (g1 sortA) (lCons (oLc 13 [11, 12] (iSeq (dCall 2 F__law_squares (aCons (frV 1) (aCons (frV 1) aNil)))) (gT 2 (gCons' (gN 11) (gCons' (gN 12) gNil'))) (bO (o2 eqO (o2 modI (oL (g1 intO) (lCons (o2 addO (rdV 11) (rdV 12)) lNil)) (kO (.int 2))) (rdV 7))) (dTup (aCons (frV 11) (aCons (frV 12) aNil)))) lNil)) lNil))) (fSeq (fSet 9 (dCall 4 F_reached_squares (aCons (kO (.str (PySem.Str.ofString "knight"))) (aCons (frV 1) (aCons (frV 1) (aCons (dTup (aCons (o2 divI (rdV 1) (kO (.int 2))) (aCons (o2 divI (rdV 1) (kO (.int 2))) aNil))) aNil)))))) (fSeq (fFz 9) (fSeq (fIf (bOr (bO (o2 isnO (dCall 4 F_is_at_peace (aCons (kO (.str (PySem.Str.ofString "knight"))) (aCons (frV 1) (aCons (frV 1) (aCons (frV 8) aNil))))) (kO (.bool true)))) (bO (o2 neO (oLc 13 [11, 12] (iSeq (frV 9)) (gT 2 (gCons' (gN 11) (gCons' (gN 12) gNil'))) (bO (o2 eqO (o2 modI (oL (g1 intO) (lCons (o2 addO (rdV 11) (rdV 12)) lNil)) (kO (.int 2))) (kO (.int 0)))) (kO (.int 1))) (dLst aNil)))) (fRet (kO (.bool false))) fNx) (fSeq (fSet 10 (dCall 2 F_told_king_peace (aCons (frV 1) (aCons (frV 1) aNil)))) (fSeq (fFz 10) (fRet (oAnd (o2 eqO (oL (g1 lenA) (lCons (dCall 4 F_watched_squares (aCons (kO (.str (PySem.Str.ofString "king"))) (aCons (frV 1) (aCons (frV 1) (aCons (frV 10) aNil))))) lNil)) (o2 mulO (rdV 1) (rdV 1))) (o2 isO (dCall 4 F_is_at_peace (aCons (kO (.str (PySem.Str.ofString "king"))) (aCons (frV 1) (aCons (frV 1) (aCons (frV 10) aNil))))) (kO (.bool true)))))))))))
theorem g__law_knights_right : b__law_knights_right = (fSeq c0__law_knights_right (fSeq c1__law_knights_right (fSeq c2__law_knights_right c3__law_knights_right))) := by
  simp only [b__law_knights_right, c0__law_knights_right, c1__law_knights_right, c2__law_knights_right, c3__law_knights_right, fSeq_assoc]
def F__law_knights_right : FnB := fnOfB 13 b__law_knights_right
theorem fn__law_knights_right (hd : Hd w K mg) {fd : FuncData} (Fd : FunD K (PySem.Str.ofString "_law_knights_right") (PySem.Str.ofString "_law_knights_right") (defArgs (top 33)) (defBody (top 33)) (defScope (top 33)) [] [] (He.ga K (PySem.Str.ofString "_law_knights_right")) fd) : FnOk P w K mg base CX0 5 (He.ga K (PySem.Str.ofString "_law_knights_right")) fd [(PySem.Str.ofString "source"), (PySem.Str.ofString "n")] (spB K 1 F__law_knights_right) := by
  refine fn_okB Fd sc__law_knights_right rfl rfl fun cdv A outer s H E hr => ?_
  have hu := hr.units
  have hND := sc__law_knights_right.nd
  exact (s_cons (s_tgE (e_lentF 0 (ok__law_of hd) hr (by decide) (ea_cons (e_p (d_lst (a_cons (d_tup (a_cons d_int (a_cons d_int a_nil))) (a_cons (d_tup (a_cons d_int (a_cons d_int a_nil))) (a_cons (d_tup (a_cons d_int (a_cons d_int a_nil))) (a_cons (d_tup (a_cons d_int (a_cons d_int a_nil))) (a_cons (d_tup (a_cons d_int (a_cons d_int a_nil))) (a_cons (d_tup (a_cons d_int (a_cons d_int a_nil))) (a_cons (d_tup (a_cons d_int (a_cons d_int a_nil))) (a_cons (d_tup (a_cons d_int (a_cons d_int a_nil))) (a_cons (d_tup (a_cons d_int (a_cons d_int a_nil))) (a_cons (d_tup (a_cons d_int (a_cons d_int a_nil))) a_nil)))))))))))) ea_nil)) (g_tup rfl (g_cons (g_name 2 hND) (g_cons (g_name 3 hND) g_nil)))) (s_cons (s_par2 4 5 rfl hND (oa_cons (d_callB (call_min2 rfl) rd_min2 rfl hd.fr_min boot_min (ra_cons (r_var 2) (ra_cons (r_var 3) ra_nil))) (oa_cons (d_callB (call_max2 rfl) rd_max2 rfl hd.fr_max boot_max (ra_cons (r_var 2) (ra_cons (r_var 3) ra_nil))) oa_nil))) (s_cons (s_set 6 hND (d_if (t_cmp (op_eqG hu) rd_eq (r_var 4) (DP.pr d_int)) (d_var 5) (d_if (t_cmp (op_eqG hu) rd_eq (r_var 4) (DP.pr d_int)) (d_op2 op_addO rd_addO (DP.pr (d_op2 op_mulO rd_mulO (DP.pr (d_op2 op_fdiv rd_div (r_var 5) (DP.pr d_int))) (DP.pr d_int))) (DP.pr (d_callB (call_min2 rfl) rd_min2 rfl hd.fr_min boot_min (ra_cons (DP.pr d_int) (ra_cons (DP.pr (d_op2 op_mulO rd_mulO (DP.pr d_int) (DP.pr (d_op2 op_mod rd_mod (DP.pr (d_callTy call_int1 rd_int rfl hd.fr_int boot_int (ra_cons (r_var 5) ra_nil))) (DP.pr d_int))))) ra_nil))))) (d_op2 op_fdiv rd_div (DP.pr (d_op2 op_addO rd_addO (DP.pr (d_op2 op_mulO rd_mulO (r_var 4) (r_var 5))) (DP.pr d_int))) (DP.pr d_int))))) (s_fz 6 (s_cons (s_if (t_w (w_or (t_cmp (op_neG hu) rd_ne (DP.pr (d_callB SkE.call_repr_int rd_repr rfl hd.fr_repr boot_repr (ra_cons (DP.pr (d_callF (ok_most_at_peace hd) hr (by decide) (a_cons d_str (a_cons (d_var 2) (a_cons (d_var 3) a_nil))))) ra_nil))) (DP.pr (d_callB SkE.call_repr_int rd_repr rfl hd.fr_repr boot_repr (ra_cons (r_var 6) ra_nil)))) (w_or1 (t_cmp (op_neG hu) rd_ne (DP.pr (d_callF (ok_most_at_peace hd) hr (by decide) (a_cons d_str (a_cons (d_var 2) (a_cons (d_var 3) a_nil))))) (DP.pr (d_callF (ok_king_peace hd) hr (by decide) (a_cons (d_var 2) (a_cons (d_var 3) a_nil)))))))) (s_one (s_ret d_bl)) s_nil) (s_cons (s_setE 7 hND (e_lentF 0 (ok__law_pick hd) hr (by decide) (ea_cons (e_p d_int) ea_nil))) (s_cons (s_set 8 hND (d_callTy call_tuple_of rd_tuple rfl hd.fr_tuple boot_tuple (ra_cons (DP.pr (d_callB (op_sortAll rfl hu) rd_sortAll rfl hd.fr_sorted boot_sorted (ra_cons (DP.pr (d_lc (n := 13) [((PySem.Str.ofString "r"), 11), ((PySem.Str.ofString "c"), 12)] rfl hND (i_seq (d_callF (ok__law_squares hd) hr (by decide) (a_cons (d_var 1) (a_cons (d_var 1) a_nil)))) (blkOk_by (by kernel_rfl)) (fun _ _ _ _ _ => (g_tup rfl (g_cons (g_name 11 hND) (g_cons (g_name 12 hND) g_nil)))) (fun _ _ _ _ _ => (ts_one (t_cmp (op_eqG hu) rd_eq (DP.pr (d_op2 op_mod rd_mod (DP.pr (d_callTy call_int1 rd_int rfl hd.fr_int boot_int (ra_cons (DP.pr (d_op2 op_addO rd_addO (r_var 11) (r_var 12))) ra_nil))) (DP.pr d_int))) (r_var 7)))) (fun _ _ _ _ _ => (d_tup (a_cons (d_var 11) (a_cons (d_var 12) a_nil)))))) ra_nil))) ra_nil))) (s_cons (s_set 9 hND (d_callF (ok_reached_squares hd) hr (by decide) (a_cons d_str (a_cons (d_var 1) (a_cons (d_var 1) (a_cons (d_tup (a_cons (d_op2 op_fdiv rd_div (r_var 1) (DP.pr d_int)) (a_cons (d_op2 op_fdiv rd_div (r_var 1) (DP.pr d_int)) a_nil))) a_nil)))))) (s_fz 9 (s_cons (s_if (t_w (w_or (t_cmp op_isnA rd_isn (DP.pr (d_callF (ok_is_at_peace hd) hr (by decide) (a_cons d_str (a_cons (d_var 1) (a_cons (d_var 1) (a_cons (d_var 8) a_nil)))))) (DP.pr d_bl)) (w_or1 (t_cmp (op_neG hu) rd_ne (DP.pr (d_lc (n := 13) [((PySem.Str.ofString "r"), 11), ((PySem.Str.ofString "c"), 12)] rfl hND (i_seq (d_var 9)) (blkOk_by (by kernel_rfl)) (fun _ _ _ _ _ => (g_tup rfl (g_cons (g_name 11 hND) (g_cons (g_name 12 hND) g_nil)))) (fun _ _ _ _ _ => (ts_one (t_cmp (op_eqG hu) rd_eq (DP.pr (d_op2 op_mod rd_mod (DP.pr (d_callTy call_int1 rd_int rfl hd.fr_int boot_int (ra_cons (DP.pr (d_op2 op_addO rd_addO (r_var 11) (r_var 12))) ra_nil))) (DP.pr d_int))) (DP.pr d_int)))) (fun _ _ _ _ _ => d_int))) (DP.pr (d_lst a_nil)))))) (s_one (s_ret d_bl)) s_nil) (s_cons (s_set 10 hND (d_callF (ok_told_king_peace hd) hr (by decide) (a_cons (d_var 1) (a_cons (d_var 1) a_nil)))) (s_fz 10 (s_one (s_ret (d_and (d_cmp (op_eqG hu) rd_eq (DP.pr (d_callB op_lenA rd_lenA rfl hd.fr_len PySem.boot_len (ra_cons (DP.pr (d_callF (ok_watched_squares hd) hr (by decide) (a_cons d_str (a_cons (d_var 1) (a_cons (d_var 1) (a_cons (d_var 10) a_nil)))))) ra_nil))) (DP.pr (d_op2 op_mulO rd_mulO (r_var 1) (r_var 1)))) (d_one (d_cmp op_isA rd_is (DP.pr (d_callF (ok_is_at_peace hd) hr (by decide) (a_cons d_str (a_cons (d_var 1) (a_cons (d_var 1) (a_cons (d_var 10) a_nil)))))) (DP.pr d_bl))))))))))))))))))
theorem ok__law_knights_right (hd : Hd w K mg) : Fok P w K mg base 5 (PySem.Str.ofString "_law_knights_right") [(PySem.Str.ofString "source"), (PySem.Str.ofString "n")] (spB K 1 F__law_knights_right) := by
  obtain ⟨fd, Fd⟩ := hd.fd__law_knights_right
  exact ⟨⟨fd, fn__law_knights_right hd Fd, Fd.bindsN fun _ _ _ _ _ _ us hl => match us, hl with | [_, _], _ => rfl⟩, hd.gl__law_knights_right, Fd.kp⟩
/-! ### law -/
theorem sc_law : FnScope [(PySem.Str.ofString "script"), (PySem.Str.ofString "source"), (PySem.Str.ofString "n")] [(PySem.Str.ofString "script")] (defScope (top 34)) := ⟨rfl, rfl, rfl, by decide +kernel, rfl, by decide +kernel, by decide +kernel⟩
def b_law : FS := (fSeq (fSetE 1 (eCallB 0 0 F__law_source eaNil)) (fSeq (fSetE 2 (e2O addO (eP (kO (.int 1))) (eCallB 1 1 F__law_pick (eaCons (eP (kO (.int 8))) eaNil)))) (fSeq (fFz 2) (fSeq (fIfE (eOr (eNot (eBO (eCall 1 F__law_bishops_right (eaCons (eIf (eOr (ePB (bO (o2 neO (rdV 2) (kO (.int 5))))) (eBO (e2O eqO (eCallB 1 1 F__law_pick (eaCons (eP (kO (.int 6))) eaNil)) (eP (kO (.int 0)))))) (eP (frV 2)) (eP (kO (.int 4)))) eaNil)))) (eNot (eBO (eCallB 1 1 F__law_blocks_right (eaCons (eP (frV 2)) eaNil))))) (fRet (kO (.bool false))) fNx) (fRetE (eAndV (eCallB 1 0 F__law_queens_right eaNil) (eCallB 1 1 F__law_knights_right (eaCons (eP (frV 2)) eaNil))))))))
def c0_law : FS := (fSetE 1 (eCallB 0 0 F__law_source eaNil))
def c1_law : FS := (fSetE 2 (e2O addO (eP (kO (.int 1))) (eCallB 1 1 F__law_pick (eaCons (eP (kO (.int 8))) eaNil))))
def c2_law : FS := (fFz 2)
def c3_law : FS := (fIfE (eOr (eNot (eBO (eCall 1 F__law_bishops_right (eaCons (eIf (eOr (ePB (bO (o2 neO (rdV 2) (kO (.int 5))))) (eBO (e2O eqO (eCallB 1 1 F__law_pick (eaCons (eP (kO (.int 6))) eaNil)) (eP (kO (.int 0)))))) (eP (frV 2)) (eP (kO (.int 4)))) eaNil)))) (eNot (eBO (eCallB 1 1 F__law_blocks_right (eaCons (eP (frV 2)) eaNil))))) (fRet (kO (.bool false))) fNx)
def c4_law : FS := (fRetE (eAndV (eCallB 1 0 F__law_queens_right eaNil) (eCallB 1 1 F__law_knights_right (eaCons (eP (frV 2)) eaNil))))
theorem g_law : b_law = (fSeq c0_law (fSeq c1_law (fSeq c2_law (fSeq c3_law c4_law)))) := by
  simp only [b_law, c0_law, c1_law, c2_law, c3_law, c4_law, fSeq_assoc]
def F_law : FnB := fnOfB 3 b_law
theorem fn_law (hd : Hd w K mg) {fd : FuncData} (Fd : FunD K (PySem.Str.ofString "law") (PySem.Str.ofString "law") (defArgs (top 34)) (defBody (top 34)) (defScope (top 34)) [] [] (He.ga K (PySem.Str.ofString "law")) fd) : FnOk P w K mg base CX0 6 (He.ga K (PySem.Str.ofString "law")) fd [(PySem.Str.ofString "script")] (spB K 0 F_law) := by
  refine fn_okB Fd sc_law rfl rfl fun cdv A outer s H E hr => ?_
  have hu := hr.units
  have hND := sc_law.nd
  exact (s_cons (s_setE 1 hND (e_lentF 0 (ok__law_source hd) hr (by decide) ea_nil)) (s_cons (s_setE 2 hND (e_op2 op_addO rd_addO (e_p d_int) (e_lentF 1 (ok__law_pick hd) hr (by decide) (ea_cons (e_p d_int) ea_nil)))) (s_fz 2 (s_cons (s_ifE (et_w (ew_or (et_not (et_val (e_callF (ok__law_bishops_right hd) hr (by decide) (ea_cons (e_if (et_w (ew_or (et_p (t_cmp (op_neG hu) rd_ne (r_var 2) (DP.pr d_int))) (ew_or1 (et_cmp (op_eqG hu) rd_eq (e_lentF 1 (ok__law_pick hd) hr (by decide) (ea_cons (e_p d_int) ea_nil)) (e_p d_int))))) (e_p (d_var 2)) (e_p d_int)) ea_nil)))) (ew_or1 (et_not (et_val (e_lentF 1 (ok__law_blocks_right hd) hr (by decide) (ea_cons (e_p (d_var 2)) ea_nil))))))) (s_one (s_ret d_bl)) s_nil) (s_one (s_retE (e_and (e_lentF 1 (ok__law_queens_right hd) hr (by decide) ea_nil) (e_one (e_lentF 1 (ok__law_knights_right hd) hr (by decide) (ea_cons (e_p (d_var 2)) ea_nil))))))))))
theorem ok_law (hd : Hd w K mg) : Fok P w K mg base 6 (PySem.Str.ofString "law") [(PySem.Str.ofString "script")] (spB K 0 F_law) := by
  obtain ⟨fd, Fd⟩ := hd.fd_law
  exact ⟨⟨fd, fn_law hd Fd, Fd.bindsN fun _ _ _ _ _ _ us hl => match us, hl with | [_], _ => rfl⟩, hd.gl_law, Fd.kp⟩
end LW

namespace DL
open PySem PySem.Spec PyProof.Rows L2

/-! ## whole numbers, texts and tuples of them: == is equality -/
mutual
theorem eqv_plain : ∀ (x y : PyData), plainK x = true → plainK y = true → (PyData.eqv x y = true ↔ x = y)
  | .int i, .int j, _, _ => by simp only [PyData.eqv, beq_iff_eq, PyData.int.injEq]
  | .str i, .str j, _, _ => by simp only [PyData.eqv, beq_iff_eq, PyData.str.injEq]
  | .tuple l, .tuple m, h1, h2 => by
    simp only [PyData.eqv, PyData.tuple.injEq]
    exact eqvs_plain l m h1 h2
  | .int i, .str j, _, _ => by simp only [PyData.eqv]; simp
  | .int i, .tuple j, _, _ => by simp only [PyData.eqv]; simp
  | .str i, .int j, _, _ => by simp only [PyData.eqv]; simp
  | .str i, .tuple j, _, _ => by simp only [PyData.eqv]; simp
  | .tuple i, .str j, _, _ => by simp only [PyData.eqv]; simp
  | .tuple i, .int j, _, _ => by simp only [PyData.eqv]; simp
  | .none, _, h, _ => by cases h
  | .bool _, _, h, _ => by cases h
  | .list _, _, h, _ => by cases h
  | .dict _, _, h, _ => by cases h
  | .int _, .none, _, h => by cases h
  | .int _, .bool _, _, h => by cases h
  | .int _, .list _, _, h => by cases h
  | .int _, .dict _, _, h => by cases h
  | .str _, .none, _, h => by cases h
  | .str _, .bool _, _, h => by cases h
  | .str _, .list _, _, h => by cases h
  | .str _, .dict _, _, h => by cases h
  | .tuple _, .none, _, h => by cases h
  | .tuple _, .bool _, _, h => by cases h
  | .tuple _, .list _, _, h => by cases h
  | .tuple _, .dict _, _, h => by cases h
theorem eqvs_plain : ∀ (l m : List PyData), plainKs l = true → plainKs m = true → (PyData.eqvAll l m = true ↔ l = m)
  | [], [], _, _ => by simp only [PyData.eqvAll]
  | [], _ :: _, _, _ => by simp only [PyData.eqvAll]; simp
  | _ :: _, [], _, _ => by simp only [PyData.eqvAll]; simp
  | x :: xs, y :: ys, h1, h2 => by
    have h1 : plainK x = true ∧ plainKs xs = true := by simpa [plainKs] using h1
    have h2 : plainK y = true ∧ plainKs ys = true := by simpa [plainKs] using h2
    simp only [PyData.eqvAll, Bool.and_eq_true, List.cons.injEq]
    rw [eqv_plain x y h1.1 h2.1, eqvs_plain xs ys h1.2 h2.2]
end

/-! ## data that bears a Lean value -/
class Enc (α : Type) [DecidableEq α] where
  e : α → PyData
  inj : ∀ {a b : α}, e a = e b → a = b
  pl : ∀ a, plainK (e a) = true
  dep : Nat
  sh : ∀ a n, dep ≤ n → shal n (e a) = true
open Enc
section
variable {α β γ : Type} [DecidableEq α] [DecidableEq β] [DecidableEq γ] [Enc α] [Enc β] [Enc γ]
theorem eqv_e (a b : α) : PyData.eqv (e a) (e b) = decide (a = b) := by
  rw [Bool.eq_iff_iff, eqv_plain _ _ (pl a) (pl b), decide_eq_true_iff]
  exact ⟨inj, congrArg _⟩
instance : Enc Int := ⟨.int, fun h => by injection h, fun _ => rfl, 0, fun a n _ => by simp [shal]⟩
instance : Enc Nat := ⟨fun n => .int n, fun h => by injection h; omega, fun _ => rfl, 0, fun a n _ => by simp [shal]⟩
instance : Enc Str := ⟨.str, fun h => by injection h, fun _ => rfl, 0, fun a n _ => by simp [shal]⟩
instance : Enc (α × β) := ⟨fun p => .tuple [e p.1, e p.2], fun {a b} h => by
    injection h with h
    injection h with h1 h2
    injection h2 with h2 _
    exact Prod.ext (inj h1) (inj h2), fun p => by simp [plainK, plainKs, pl], max (dep α) (dep β) + 1, fun p n h => by
    cases n with
    | zero => omega
    | succ n => simp [shal, shalAll, sh p.1 n (by omega), sh p.2 n (by omega)]⟩
theorem map_e_inj : ∀ {l m : List α}, l.map e = m.map e → l = m
  | [], [], _ => rfl
  | [], _ :: _, h => by simp at h
  | _ :: _, [], h => by simp at h
  | a :: l, b :: m, h => by
    rw [List.map_cons, List.map_cons] at h
    injection h with h1 h2
    rw [inj h1, map_e_inj h2]
theorem plainKs_e : ∀ l : List α, plainKs (l.map e) = true
  | [] => rfl
  | a :: l => by rw [List.map_cons, plainKs, pl, plainKs_e l]; rfl
theorem shalAll_e (n : Nat) (h : dep α ≤ n) : ∀ l : List α, shalAll n (l.map e) = true
  | [] => by simp [shalAll]
  | a :: l => by rw [List.map_cons, shalAll, sh a n h, shalAll_e n h l]; rfl
/-- lists stand for tuples -/
instance : Enc (List α) := ⟨fun l => .tuple (l.map e), fun h => by injection h with h; exact map_e_inj h, fun l => plainKs_e l, dep α + 1, fun l n h => by
    cases n with
    | zero => omega
    | succ n => rw [shal]; exact shalAll_e n (by omega) l⟩
theorem any_e (l : List α) (a : α) : ((l.map e).any fun z => PyData.eqv z (e a)) = decide (a ∈ l) := by
  rw [List.any_map]
  have : (fun z : α => PyData.eqv (e z) (e a)) = fun z => decide (z = a) := by funext z; exact eqv_e z a
  show (l.any fun z => PyData.eqv (e z) (e a)) = _
  rw [this, Bool.eq_iff_iff, List.any_eq_true, decide_eq_true_iff]
  constructor
  · rintro ⟨x, m, h⟩; rw [← of_decide_eq_true h]; exact m
  · intro h; exact ⟨a, h, decide_eq_true rfl⟩
/-- an object that bears -/
abbrev ev (a : α) : Ob := .fr (e a)
abbrev sv (a : α) : Option Ob := some (.fr (e a))
abbrev lv (l : List α) : PyData := .list (l.map e)
/-! ### operations -/
theorem inA_tup (h : dep α ≤ 9) (a : α) (l : List α) : inA (ev a) (.fr (.tuple (l.map e))) = some (fB (decide (a ∈ l))) := by
  show (if shal 9 (e a) = true then some (fB ((l.map e).any fun z => PyData.eqv z (e a))) else none) = _
  rw [sh a 9 h, if_pos rfl, any_e]
theorem inA_lst (h : dep α ≤ 9) (a : α) (l : List α) : inA (ev a) (.fr (lv l)) = some (fB (decide (a ∈ l))) := by
  show (if shal 9 (e a) = true then some (fB ((l.map e).any fun z => PyData.eqv z (e a))) else none) = _
  rw [sh a 9 h, if_pos rfl, any_e]
theorem niA_tup (h : dep α ≤ 9) (a : α) (l : List α) : niA (ev a) (.fr (.tuple (l.map e))) = some (fB (!decide (a ∈ l))) := by
  show (if shal 9 (e a) = true then some (fB (!(l.map e).any fun z => PyData.eqv z (e a))) else none) = _
  rw [sh a 9 h, if_pos rfl, any_e]
theorem niA_lst (h : dep α ≤ 9) (a : α) (l : List α) : niA (ev a) (.fr (lv l)) = some (fB (!decide (a ∈ l))) := by
  show (if shal 9 (e a) = true then some (fB (!(l.map e).any fun z => PyData.eqv z (e a))) else none) = _
  rw [sh a 9 h, if_pos rfl, any_e]
theorem eqO_e (h : dep α ≤ 9) (a b : α) : eqO (ev a) (ev b) = some (fB (decide (a = b))) := by
  show (if (shal 9 (e a) || shal 9 (e b)) = true then some (fB (PyData.eqv (e a) (e b))) else none) = _
  rw [sh a 9 h, Bool.true_or, if_pos rfl, eqv_e]
theorem neO_e (h : dep α ≤ 9) (a b : α) : neO (ev a) (ev b) = some (fB (!decide (a = b))) := by
  show (if (shal 9 (e a) || shal 9 (e b)) = true then some (fB (!PyData.eqv (e a) (e b))) else none) = _
  rw [sh a 9 h, Bool.true_or, if_pos rfl, eqv_e]
end
/-! ## reckoning with terms -/
section
variable {ρ : Env} {fa fb : F1} {g : Ob → Ob → Option Ob} {x y z : Ob}
theorem o2_eq (h1 : fa ρ = some x) (h2 : fb ρ = some y) (h3 : g x y = some z) : o2 g fa fb ρ = some z := by unfold o2; rw [h1, Option.bind_some, h2, Option.bind_some, h3]
theorem o1_eq {g : Ob → Option Ob} (h1 : fa ρ = some x) (h3 : g x = some z) : o1 g fa ρ = some z := by unfold o1; rw [h1, Option.bind_some, h3]
theorem oL1_eq {g : Ob → Option Ob} (h1 : fa ρ = some x) (h3 : g x = some z) : oL (g1 g) (lCons fa lNil) ρ = some z := by
  unfold oL lCons lNil
  rw [h1]
  exact h3
theorem oL2_eq {g : Ob → Ob → Option Ob} (h1 : fa ρ = some x) (h2 : fb ρ = some y) (h3 : g x y = some z) : oL (g2 g) (lCons fa (lCons fb lNil)) ρ = some z := by
  unfold oL lCons lNil
  rw [h1, h2]
  exact h3
theorem call_eq {n : Nat} {F : Fn} {fd : FD} {ds : List PyData} (h1 : fd ρ = some ds) (h2 : ds.length = n) (h3 : F ds = some z) : dCall n F fd ρ = some z := by
  unfold dCall
  rw [h1, Option.bind_some, if_pos (by rw [h2]; exact Nat.beq_refl n), h3]
theorem bO_eq {b : Bool} (h : fa ρ = some (fB b)) : bO fa ρ = some b := by unfold bO; rw [h]; rfl
theorem bNot_eq {f : FB} {b : Bool} (h : f ρ = some b) : bNot f ρ = some (!b) := by unfold bNot; rw [h]; rfl
theorem oB_eq {f : FB} {b : Bool} (h : f ρ = some b) : oB f ρ = some (fB b) := by unfold oB; rw [h]; rfl
theorem bAnd_eq {f g : FB} {b c : Bool} (h : f ρ = some b) (h2 : b = true → g ρ = some c) : bAnd f g ρ = some (b && c) := by
  unfold bAnd; rw [h, Option.bind_some]
  cases b with
  | true => rw [if_pos rfl, h2 rfl]; rfl
  | false => rfl
theorem bOr_eq {f g : FB} {b c : Bool} (h : f ρ = some b) (h2 : b = false → g ρ = some c) : bOr f g ρ = some (b || c) := by
  unfold bOr; rw [h, Option.bind_some]
  cases b with
  | false => rw [if_neg Bool.false_ne_true, h2 rfl]; rfl
  | true => rfl
theorem oAnd_eq {b c : Bool} (h : fa ρ = some (fB b)) (h2 : b = true → fb ρ = some (fB c)) : oAnd fa fb ρ = some (fB (b && c)) := by
  unfold oAnd; rw [h]
  cases b with
  | true => exact h2 rfl
  | false => rfl
theorem oOr_eq {b c : Bool} (h : fa ρ = some (fB b)) (h2 : b = false → fb ρ = some (fB c)) : oOr fa fb ρ = some (fB (b || c)) := by
  unfold oOr; rw [h]
  cases b with
  | false => exact h2 rfl
  | true => rfl
theorem oIf_eq {c : FB} {b : Bool} (h : c ρ = some b) (h1 : b = true → fa ρ = some z) (h2 : b = false → fb ρ = some z) : oIf c fa fb ρ = some z := by
  unfold oIf; rw [h]
  cases b with
  | true => exact h1 rfl
  | false => exact h2 rfl
theorem chain_eq {g g' : Ob → Ob → Option Ob} {fc : F1} {w : Ob} {b c : Bool} (h1 : fa ρ = some x) (h2 : fb ρ = some y) (h3 : fc ρ = some w) (h4 : g x y = some (fB b)) (h5 : g' y w = some (fB c)) : oChain g g' fa fb fc ρ = some (fB (b && c)) := by
  unfold oChain; rw [h1, Option.bind_some, h2, Option.bind_some, h4]
  cases b with
  | true => show ((fc ρ).bind fun w => g' y w) = _; rw [h3, Option.bind_some, h5]; rfl
  | false => rfl
theorem aCons_eq {f : F1} {r : FD} {o : Ob} {d : PyData} {ds : List PyData} (h1 : f ρ = some o) (h2 : fz o = some d) (h3 : r ρ = some ds) : aCons f r ρ = some (d :: ds) := by unfold aCons; rw [h1, Option.bind_some, h2, Option.bind_some, h3]; rfl
theorem aNil_eq : aNil ρ = some [] := rfl
theorem aStar_eq {f : F1} {r : FD} {o : Ob} {l ds : List PyData} (h1 : f ρ = some o) (h2 : asSeq o = some l) (h3 : r ρ = some ds) : aStar f r ρ = some (l ++ ds) := by unfold aStar; rw [h1, Option.bind_some, h2, Option.bind_some, h3]; rfl
theorem short_le {l : List PyData} (h : l.length ≤ 16777216) : short l = true := Nat.ble_eq.mpr h
theorem dTup_eq {f : FD} {l : List PyData} (h : f ρ = some l) (hs : l.length ≤ 16777216) : dTup f ρ = some (.fr (.tuple l)) := by unfold dTup; rw [h, Option.bind_some, if_pos (short_le hs)]
theorem dLst_eq {f : FD} {l : List PyData} (h : f ρ = some l) (hs : l.length ≤ 16777216) : dLst f ρ = some (.lst l) := by unfold dLst; rw [h, Option.bind_some, if_pos (short_le hs)]
theorem iSeq_eq {f : F1} {o : Ob} {d : PyData} {l : List PyData} (h : f ρ = some o) (h2 : fz o = some d) (h3 : dSeq d = some l) : iSeq f ρ = some l := by unfold iSeq; rw [h, Option.bind_some, h2, Option.bind_some, h3]
/-! ## comprehensions -/
theorem lcL_eq {α : Type} {ga : FT} {tt : FB} {te : F1} (enc : α → PyData) (c : α → Bool) (out : α → PyData) : ∀ (xs : List α), (∀ x ∈ xs, ∃ ρ1, ga (enc x) ρ = some ρ1 ∧ tt ρ1 = some (c x) ∧ (c x = true → ∃ o, te ρ1 = some o ∧ fz o = some (out x))) → lcL ga tt te (xs.map enc) ρ = some ((xs.filter c).map out)
  | [], _ => rfl
  | x :: xs, h => by
    obtain ⟨ρ1, e1, e2, e3⟩ := h x List.mem_cons_self
    have ih := lcL_eq enc c out xs fun y m => h y (List.mem_cons_of_mem _ m)
    rw [List.map_cons, lcL, e1, Option.bind_some, e2, Option.bind_some]
    cases hc : c x with
    | true =>
      obtain ⟨o, e4, e5⟩ := e3 hc
      rw [if_pos rfl, e4, Option.bind_some, e5, Option.bind_some, ih, Option.bind_some, List.filter_cons_of_pos (by rw [hc]), List.map_cons]
    | false => rw [if_neg Bool.false_ne_true, ih, List.filter_cons_of_neg (by rw [hc]; decide)]
theorem oLc_eq {α : Type} {n : Nat} {vs : List Nat} {fi : FD} {ga : FT} {tt : FB} {te : F1} (xs : List α) (enc : α → PyData) (c : α → Bool) (out : α → PyData) (hn : ρ.length = n) (hi : fi ρ = some (xs.map enc)) (hs : xs.length ≤ 16777216)
    (h : ∀ x ∈ xs, ∃ ρ1, ga (enc x) (wipeE ρ vs) = some ρ1 ∧ tt ρ1 = some (c x) ∧ (c x = true → ∃ o, te ρ1 = some o ∧ fz o = some (out x))) : oLc n vs fi ga tt te ρ = some (.lst ((xs.filter c).map out)) := by
  unfold oLc
  rw [if_pos (by rw [hn]; exact Nat.beq_refl n), hi, Option.bind_some, if_pos (short_le (by rw [List.length_map]; exact hs)), lcL_eq enc c out xs h, Option.bind_some]
/-- without a test -/
theorem oLm_eq {α : Type} {n : Nat} {vs : List Nat} {fi : FD} {ga : FT} {te : F1} (xs : List α) (enc : α → PyData) (out : α → PyData) (hn : ρ.length = n) (hi : fi ρ = some (xs.map enc)) (hs : xs.length ≤ 16777216)
    (h : ∀ x ∈ xs, ∃ ρ1, ga (enc x) (wipeE ρ vs) = some ρ1 ∧ ∃ o, te ρ1 = some o ∧ fz o = some (out x)) : oLc n vs fi ga bYes te ρ = some (.lst (xs.map out)) := by
  rw [oLc_eq xs enc (fun _ => true) out hn hi hs fun x m => ?_, List.filter_eq_self.mpr fun _ _ => rfl]
  obtain ⟨ρ1, h1, h2⟩ := h x m
  exact ⟨ρ1, h1, rfl, fun _ => h2⟩
theorem lc2L_eq {α β : Type} {ga ga1 : FT} {tt tt1 : FB} {fi1 : FD} {vs1 : List Nat} {te : F1} (enc : α → PyData) (c : α → Bool) (ys : α → List β) (enc1 : β → PyData) (c1 : α → β → Bool) (out : α → β → PyData) : ∀ (xs : List α),
    (∀ x ∈ xs, ∃ ρ1, ga (enc x) ρ = some ρ1 ∧ tt ρ1 = some (c x) ∧ (c x = true → fi1 ρ1 = some ((ys x).map enc1) ∧ ∀ y ∈ ys x, ∃ ρ2, ga1 (enc1 y) (wipeE ρ1 vs1) = some ρ2 ∧ tt1 ρ2 = some (c1 x y) ∧ (c1 x y = true → ∃ o, te ρ2 = some o ∧ fz o = some (out x y)))) →
    lc2L ga tt fi1 vs1 ga1 tt1 te (xs.map enc) ρ = some ((xs.filter c).flatMap fun x => ((ys x).filter (c1 x)).map (out x))
  | [], _ => rfl
  | x :: xs, h => by
    obtain ⟨ρ1, e1, e2, e3⟩ := h x List.mem_cons_self
    have ih := lc2L_eq enc c ys enc1 c1 out xs fun y m => h y (List.mem_cons_of_mem _ m)
    rw [List.map_cons, lc2L, e1, Option.bind_some, e2, Option.bind_some]
    cases hc : c x with
    | true =>
      obtain ⟨e4, e6⟩ := e3 hc
      rw [if_pos rfl, e4, Option.bind_some, lcL_eq enc1 (c1 x) (out x) (ys x) e6, ih, List.filter_cons_of_pos (by rw [hc])]
      rfl
    | false => rw [if_neg Bool.false_ne_true, ih, List.filter_cons_of_neg (by rw [hc]; decide)]
theorem oLc2_eq {α β : Type} {n : Nat} {vs vs1 : List Nat} {fi fi1 : FD} {ga ga1 : FT} {tt tt1 : FB} {te : F1} (xs : List α) (enc : α → PyData) (c : α → Bool) (ys : α → List β) (enc1 : β → PyData) (c1 : α → β → Bool) (out : α → β → PyData) (hn : ρ.length = n) (hi : fi ρ = some (xs.map enc))
    (h : ∀ x ∈ xs, ∃ ρ1, ga (enc x) (wipeE ρ vs) = some ρ1 ∧ tt ρ1 = some (c x) ∧ (c x = true → fi1 ρ1 = some ((ys x).map enc1) ∧ ∀ y ∈ ys x, ∃ ρ2, ga1 (enc1 y) (wipeE ρ1 vs1) = some ρ2 ∧ tt1 ρ2 = some (c1 x y) ∧ (c1 x y = true → ∃ o, te ρ2 = some o ∧ fz o = some (out x y))))
    (hs : ((xs.filter c).flatMap fun x => ((ys x).filter (c1 x)).map (out x)).length ≤ 16777216) :
    oLc2 n vs vs1 fi ga tt fi1 ga1 tt1 te ρ = some (.lst ((xs.filter c).flatMap fun x => ((ys x).filter (c1 x)).map (out x))) := by
  unfold oLc2
  rw [if_pos (by rw [hn]; exact Nat.beq_refl n), hi, Option.bind_some, lc2L_eq enc c ys enc1 c1 out xs h, Option.bind_some, if_pos (short_le hs)]
/-! ## loops -/
theorem ws_mono {f : FS} {Q Q' : Out → Prop} (h : WS f ρ Q) (k : ∀ r, Q r → Q' r) : WS f ρ Q' := let ⟨r, e, q⟩ := h; ⟨r, e, k r q⟩
/-- what a turn of a loop must end with: on by I, out by N, back by Q -/
def TurnK (I N : Env → Prop) (Q : Out → Prop) : Out → Prop
  | .nx ρ => I ρ
  | .ct ρ => I ρ
  | .bk ρ => N ρ
  | .rt o ρ => Q (.rt o ρ)
def LoopK (N : Env → Prop) (Q : Out → Prop) : Out → Prop
  | .nx ρ => N ρ
  | .rt o ρ => Q (.rt o ρ)
  | _ => False
theorem forL_ws {α : Type} {ga : FT} {fb : FS} {N : Env → Prop} {Q : Out → Prop} (enc : α → PyData) (I : List α → List α → Env → Prop)
    (step : ∀ done x todo ρ, I done (x :: todo) ρ → ∃ ρ1, ga (enc x) ρ = some ρ1 ∧ WS fb ρ1 (TurnK (I (done ++ [x]) todo) N Q)) (fin : ∀ done ρ, I done [] ρ → N ρ) :
    ∀ (todo done : List α) (ρ : Env), I done todo ρ → ∃ r, forL ga fb (todo.map enc) ρ = some r ∧ LoopK N Q r
  | [], done, ρ, h => ⟨_, rfl, fin done ρ h⟩
  | x :: todo, done, ρ, h => by
    obtain ⟨ρ1, e1, r, e2, q⟩ := step done x todo ρ h
    have go : forL ga fb ((x :: todo).map enc) ρ = (fb ρ1).bind fun r => match r with
        | .nx ρ2 => forL ga fb (todo.map enc) ρ2
        | .ct ρ2 => forL ga fb (todo.map enc) ρ2
        | .bk ρ2 => some (.nx ρ2)
        | .rt o ρ2 => some (.rt o ρ2) := by
      show ((ga (enc x) ρ).bind fun ρ1 => (fb ρ1).bind _) = _
      rw [e1]; rfl
    rw [go, e2]
    cases r with
    | nx ρ2 => exact forL_ws enc I step fin todo (done ++ [x]) ρ2 q
    | ct ρ2 => exact forL_ws enc I step fin todo (done ++ [x]) ρ2 q
    | bk ρ2 => exact ⟨_, rfl, q⟩
    | rt o ρ2 => exact ⟨_, rfl, q⟩
theorem loop_end {f g : FS} {Q : Out → Prop} {r : Out} (e : f ρ = some r) (q : LoopK (fun ρ => WS g ρ Q) Q r) : WS (fSeq f g) ρ Q := by
  cases r with
  | nx ρ2 => exact ws_nx e q
  | ct ρ2 => exact q.elim
  | bk ρ2 => exact q.elim
  | rt o ρ2 => exact ⟨.rt o ρ2, by unfold fSeq; rw [e]; rfl, q⟩
/-- a loop in a body -/
theorem ws_for {α : Type} {fi : FD} {ga : FT} {fb g : FS} {Q : Out → Prop} (xs : List α) (enc : α → PyData) (I : List α → List α → Env → Prop) (hi : fi ρ = some (xs.map enc)) (h0 : I [] xs ρ)
    (step : ∀ done x todo ρ, I done (x :: todo) ρ → done ++ x :: todo = xs → ∃ ρ1, ga (enc x) ρ = some ρ1 ∧ WS fb ρ1 (TurnK (I (done ++ [x]) todo) (fun ρ => WS g ρ Q) Q)) (fin : ∀ ρ, I xs [] ρ → WS g ρ Q) : WS (fSeq (fFor fi ga fb) g) ρ Q := by
  obtain ⟨r, e, q⟩ := forL_ws (ga := ga) (fb := fb) (N := fun ρ => WS g ρ Q) (Q := Q) enc (fun done todo ρ => I done todo ρ ∧ done ++ todo = xs) (fun done x todo ρ h => by
    obtain ⟨ρ1, e1, w⟩ := step done x todo ρ h.1 h.2
    refine ⟨ρ1, e1, ws_mono w fun r q => ?_⟩
    cases r with
    | nx ρ2 => exact ⟨q, by simpa using h.2⟩
    | ct ρ2 => exact ⟨q, by simpa using h.2⟩
    | bk ρ2 => exact q
    | rt o ρ2 => exact q) (fun done ρ h => by
      have : done = xs := by simpa using h.2
      subst this
      exact fin ρ h.1) xs [] ρ ⟨h0, rfl⟩
  exact loop_end (by unfold fFor; rw [hi, Option.bind_some, e]) q
theorem whL_ws {c : FB} {fb : FS} {N : Env → Prop} {Q : Out → Prop} (I : Nat → Env → Prop)
    (step : ∀ k ρ, I k ρ → ∃ b, c ρ = some b ∧ (b = true → WS fb ρ (TurnK (fun ρ => ∃ j, j < k ∧ I j ρ) N Q)) ∧ (b = false → N ρ)) :
    ∀ (fuel k : Nat) (ρ : Env), I k ρ → k < fuel → ∃ r, whL c fb fuel ρ = some r ∧ LoopK N Q r
  | 0, k, ρ, _, hf => by omega
  | fuel + 1, k, ρ, h, hf => by
    obtain ⟨b, e, ht, hn⟩ := step k ρ h
    have go : whL c fb (fuel + 1) ρ = if b = true then (fb ρ).bind fun r => match r with
        | .nx ρ2 => whL c fb fuel ρ2
        | .ct ρ2 => whL c fb fuel ρ2
        | .bk ρ2 => some (.nx ρ2)
        | .rt o ρ2 => some (.rt o ρ2)
        else some (.nx ρ) := by
      show ((c ρ).bind _) = _
      rw [e]; rfl
    rw [go]
    cases b with
    | false => exact ⟨_, rfl, hn rfl⟩
    | true =>
      obtain ⟨r, e2, q⟩ := ht rfl
      rw [if_pos rfl, e2]
      cases r with
      | nx ρ2 =>
        obtain ⟨j, hj, q⟩ := q
        exact whL_ws I step fuel j ρ2 q (by omega)
      | ct ρ2 =>
        obtain ⟨j, hj, q⟩ := q
        exact whL_ws I step fuel j ρ2 q (by omega)
      | bk ρ2 => exact ⟨_, rfl, q⟩
      | rt o ρ2 => exact ⟨_, rfl, q⟩
theorem ws_wh {n : Env → Nat} {c : FB} {fb g : FS} {Q : Out → Prop} (k : Nat) (I : Nat → Env → Prop) (h0 : I k ρ) (hk : k < n ρ)
    (step : ∀ k ρ, I k ρ → ∃ b, c ρ = some b ∧ (b = true → WS fb ρ (TurnK (fun ρ => ∃ j, j < k ∧ I j ρ) (fun ρ => WS g ρ Q) Q)) ∧ (b = false → WS g ρ Q)) : WS (fSeq (fWh n c fb) g) ρ Q := by
  obtain ⟨r, e, q⟩ := whL_ws (N := fun ρ => WS g ρ Q) (Q := Q) I step (n ρ) k ρ h0 hk
  exact loop_end (show fWh n c fb ρ = some r from e) q
/-! ## statements -/
theorem ws_asg {i : Nat} {f : F1} {g : FS} {Q : Out → Prop} {o : Ob} (h : f ρ = some o) (k : WS g (ρ.set i (some o)) Q) : WS (fSeq (fSet i f) g) ρ Q := ws_nx (by unfold fSet; rw [h]; rfl) k
theorem ws_asg1 {i : Nat} {f : F1} {Q : Out → Prop} {o : Ob} (h : f ρ = some o) (k : Q (.nx (ρ.set i (some o)))) : WS (fSet i f) ρ Q := ⟨_, by unfold fSet; rw [h]; rfl, k⟩
theorem ws_1 {f : FS} {Q : Out → Prop} {r : Out} (h : f ρ = some r) (k : Q r) : WS f ρ Q := ⟨_, h, k⟩
theorem ws_if {c : FB} {b : Bool} {f g : FS} {Q : Out → Prop} (h : c ρ = some b) (h1 : b = true → WS f ρ Q) (h2 : b = false → WS g ρ Q) : WS (fIf c f g) ρ Q := by
  cases b with
  | true => obtain ⟨r, e, q⟩ := h1 rfl; exact ⟨r, by unfold fIf; rw [h]; exact e, q⟩
  | false => obtain ⟨r, e, q⟩ := h2 rfl; exact ⟨r, by unfold fIf; rw [h]; exact e, q⟩
/-- an if that goes on or returns -/
theorem ws_ifS {c : FB} {b : Bool} {f g k : FS} {Q : Out → Prop} (h : c ρ = some b) (h1 : b = true → WS (fSeq f k) ρ Q) (h2 : b = false → WS (fSeq g k) ρ Q) : WS (fSeq (fIf c f g) k) ρ Q := by
  cases b with
  | true =>
    obtain ⟨r, e, q⟩ := h1 rfl
    refine ⟨r, ?_, q⟩
    rw [← e]
    unfold fSeq fIf; rw [h]; rfl
  | false =>
    obtain ⟨r, e, q⟩ := h2 rfl
    refine ⟨r, ?_, q⟩
    rw [← e]
    unfold fSeq fIf; rw [h]; rfl
theorem ws_retS {f : F1} {k : FS} {Q : Out → Prop} {o : Ob} (h : f ρ = some o) (q : Q (.rt o ρ)) : WS (fSeq (fRet f) k) ρ Q := ⟨_, fSeq_rt (by unfold fRet; rw [h]; rfl), q⟩
theorem ws_skip {k : FS} {Q : Out → Prop} (q : WS k ρ Q) : WS (fSeq fNx k) ρ Q := ws_nx rfl q
theorem ws_rt {f : F1} {Q : Out → Prop} {o : Ob} (h : f ρ = some o) (q : Q (.rt o ρ)) : WS (fRet f) ρ Q := ⟨_, by unfold fRet; rw [h]; rfl, q⟩
/-- a def ends with o -/
abbrev RetK (o : Ob) : Out → Prop := fun r => ∃ t, r = .rt o t
theorem fn_ws {m : Nat} {b : FS} {ds : List PyData} {o : Ob} (h : WS b (startE m ds) (RetK o)) : fnOf m b ds = some o := by
  obtain ⟨r, e, t, rfl⟩ := h
  unfold fnOf
  rw [e]; rfl
theorem ws_ret1 {f : F1} {o : Ob} (h : f ρ = some o) : WS (fRet f) ρ (RetK o) := ws_rt h ⟨_, rfl⟩
end
end DL

namespace LW
open PySem PySem.Spec PyProof.Rows L2 DL
theorem pick_ok : Pk F__law_pick := pick3_ok 104729 998244353 17 2147483647 16
theorem source_ok : Sc F__law_source := src3_ok 83 40503 59 23 2147483629 1
theorem two_of {a b : Int} {P : Int → Prop} (h : ∀ v ∈ [a, b], P v) : P a ∧ P b := ⟨h a (by simp), h b (by simp)⟩
theorem bish_1 : F__law_bishops_right [.int 1] = some (.fr (.bool true)) := isT_eq (by decide +kernel)
theorem bish_2 : F__law_bishops_right [.int 2] = some (.fr (.bool true)) := isT_eq (by decide +kernel)
theorem bish_3 : F__law_bishops_right [.int 3] = some (.fr (.bool true)) := isT_eq (by decide +kernel)
theorem bish_4 : F__law_bishops_right [.int 4] = some (.fr (.bool true)) := isT_eq (by decide +kernel)
theorem bish_6 : F__law_bishops_right [.int 6] = some (.fr (.bool true)) := isT_eq (by decide +kernel)
theorem bish_7 : F__law_bishops_right [.int 7] = some (.fr (.bool true)) := isT_eq (by decide +kernel)
theorem bish_8 : F__law_bishops_right [.int 8] = some (.fr (.bool true)) := isT_eq (by decide +kernel)
def decS : Nat → Nat → List PyData × List PyData × Int
  | 0, _ => ([], [], 0)
  | s + 1, c => match decS s (c / 6) with
    | (l, u, g) => match c % 6 with
      | 0 => (l, u, g + 1)
      | r + 1 => (l ++ [.tuple [.int r, .int ((s : Int) - r)]], u ++ [.int (2 * (r : Int) - s)], g)
def encS (s c : Nat) : PyData := match decS s c with
  | (l, u, g) => .tuple [.tuple l, .tuple u, .int g]
def SL0 : List PyData := ([0] : List Nat).map (encS 0)
@[irreducible] def SL1 : List PyData := ([0, 1] : List Nat).map (encS 1)
@[irreducible] def SL2 : List PyData := ([1, 2, 6, 7, 8] : List Nat).map (encS 2)
@[irreducible] def SL3 : List PyData := ([7, 8, 9, 13, 14, 15, 37, 39, 42, 43, 45, 48, 49, 51] : List Nat).map (encS 3)
@[irreducible] def SL4 : List PyData := ([43, 45, 46, 49, 51, 52, 55, 57, 58, 79, 80, 82, 85, 86, 88, 91, 92, 94, 223, 224, 225, 226, 235, 236, 237, 238, 253, 255, 256, 258, 259, 261, 262, 270, 271, 273, 274, 289, 290, 292, 294, 295, 296, 298, 306, 307, 308, 310] : List Nat).map (encS 4)
@[irreducible] def SL5 : List PyData := ([259, 261, 262, 263, 271, 273, 274, 275, 277, 279, 280, 281, 295, 296, 298, 299, 307, 308, 310, 311, 313, 314, 316, 317, 331, 332, 333, 335, 343, 344, 345, 347, 349, 350, 351, 353, 475, 477, 478, 479, 481, 483, 484, 485, 493, 495, 496, 497, 511, 512, 514, 515, 517, 518, 520, 521, 529, 530, 532, 533, 547, 548, 549, 551, 553, 554, 555, 557, 565, 566, 567, 569, 1339, 1342, 1343, 1345, 1348, 1349, 1351, 1354, 1355, 1357, 1360, 1361, 1411, 1412, 1415, 1417, 1418, 1421, 1423, 1424, 1427, 1429, 1430, 1433, 1519, 1520, 1522, 1523, 1531, 1532, 1534, 1535, 1537, 1538, 1540, 1541, 1549, 1552, 1553, 1554, 1555, 1558, 1559, 1566, 1567, 1570, 1571, 1572, 1573, 1576, 1577, 1621, 1622, 1625, 1626, 1627, 1628, 1631, 1638, 1639, 1640, 1643, 1644, 1645, 1646, 1649, 1735, 1736, 1738, 1739, 1741, 1742, 1744, 1745, 1753, 1754, 1756, 1757, 1765, 1768, 1769, 1770, 1771, 1774, 1775, 1776, 1777, 1780, 1781, 1788, 1789, 1792, 1793, 1837, 1838, 1841, 1842, 1843, 1844, 1847, 1848, 1849, 1850, 1853, 1860, 1861, 1862, 1865] : List Nat).map (encS 5)
@[irreducible] def SL6 : List PyData := ([1558, 1559, 1570, 1571, 1576, 1577, 1582, 1583, 1628, 1631, 1640, 1643, 1646, 1649, 1652, 1655, 1664, 1666, 1676, 1678, 1682, 1684, 1688, 1690, 1774, 1775, 1780, 1781, 1792, 1793, 1798, 1799, 1844, 1847, 1850, 1853, 1862, 1865, 1868, 1871, 1880, 1882, 1886, 1888, 1898, 1900, 1904, 1906, 1990, 1991, 1996, 1997, 2002, 2003, 2014, 2015, 2060, 2063, 2066, 2069, 2072, 2075, 2084, 2087, 2096, 2098, 2102, 2104, 2108, 2110, 2120, 2122, 2853, 2855, 2865, 2867, 2871, 2873, 2877, 2879, 2888, 2891, 2900, 2903, 2906, 2909, 2912, 2915, 2960, 2961, 2972, 2973, 2978, 2979, 2984, 2985, 3069, 3071, 3075, 3077, 3087, 3089, 3093, 3095, 3104, 3107, 3110, 3113, 3122, 3125, 3128, 3131, 3176, 3177, 3182, 3183, 3194, 3195, 3200, 3201, 3285, 3287, 3291, 3293, 3297, 3299, 3309, 3311, 3320, 3323, 3326, 3329, 3332, 3335, 3344, 3347, 3392, 3393, 3398, 3399, 3404, 3405, 3416, 3417, 8037, 8038, 8039, 8055, 8056, 8057, 8061, 8062, 8063, 8072, 8074, 8075, 8090, 8092, 8093, 8096, 8098, 8099, 8108, 8109, 8111, 8126, 8127, 8129, 8132, 8133, 8135, 8144, 8145, 8146, 8162, 8163, 8164, 8168, 8169, 8170, 8469, 8470, 8471, 8475, 8476, 8477, 8493, 8494, 8495, 8504, 8506, 8507, 8510, 8512, 8513, 8528, 8530, 8531, 8540, 8541, 8543, 8546, 8547, 8549, 8564, 8565, 8567, 8576, 8577, 8578, 8582, 8583, 8584, 8600, 8601, 8602, 9118, 9119, 9124, 9125, 9136, 9137, 9142, 9143, 9188, 9191, 9194, 9197, 9206, 9209, 9212, 9215, 9224, 9226, 9230, 9232, 9242, 9244, 9248, 9250, 9296, 9298, 9299, 9314, 9316, 9317, 9320, 9322, 9323, 9328, 9329, 9330, 9334, 9335, 9348, 9352, 9353, 9354, 9358, 9359, 9398, 9401, 9402, 9404, 9407, 9420, 9422, 9425, 9426, 9428, 9431, 9434, 9436, 9438, 9440, 9442, 9456, 9458, 9460, 9462, 9464, 9466, 9728, 9730, 9731, 9734, 9736, 9737, 9752, 9754, 9755, 9760, 9761, 9762, 9766, 9767, 9768, 9772, 9773, 9786, 9790, 9791, 9830, 9833, 9834, 9836, 9839, 9840, 9842, 9845, 9858, 9860, 9863, 9866, 9868, 9870, 9872, 9874, 9876, 9878, 9880, 9894, 9896, 9898, 10413, 10415, 10419, 10421, 10431, 10433, 10437, 10439, 10448, 10451, 10454, 10457, 10466, 10469, 10472, 10475, 10520, 10521, 10526, 10527, 10538, 10539, 10544, 10545, 10592, 10593, 10595, 10610, 10611, 10613, 10616, 10617, 10619, 10623, 10625, 10626, 10629, 10631, 10644, 10647, 10649, 10650, 10653, 10655, 10658, 10661, 10662, 10664, 10667, 10680, 10682, 10685, 10686, 10688, 10691, 10730, 10731, 10734, 10736, 10737, 10752, 10754, 10755, 10758, 10760, 10761, 11024, 11025, 11027, 11030, 11031, 11033, 11048, 11049, 11051, 11055, 11057, 11058, 11061, 11063, 11064, 11067, 11069, 11082, 11085, 11087, 11090, 11093, 11094, 11096, 11099, 11100, 11102, 11105, 11118, 11120, 11123, 11162, 11163, 11166, 11168, 11169, 11172, 11174, 11175, 11190, 11192, 11193] : List Nat).map (encS 6)
@[irreducible] def SL7 : List PyData := ([9352, 9353, 9358, 9359, 9425, 9431, 9460, 9466, 9496, 9497, 9502, 9503, 9772, 9773, 9790, 9791, 9845, 9863, 9880, 9898, 9916, 9917, 9934, 9935, 9988, 9989, 10000, 10001, 10061, 10073, 10096, 10108, 10132, 10133, 10144, 10145, 10647, 10649, 10653, 10655, 10685, 10691, 10755, 10761, 10791, 10793, 10797, 10799, 11067, 11069, 11085, 11087, 11105, 11123, 11175, 11193, 11211, 11213, 11229, 11231, 11283, 11285, 11295, 11297, 11321, 11333, 11391, 11403, 11427, 11429, 11439, 11441, 11943, 11944, 11949, 11950, 11980, 11986, 12015, 12021, 12087, 12088, 12093, 12094, 12363, 12364, 12381, 12382, 12400, 12418, 12435, 12453, 12507, 12508, 12525, 12526, 12579, 12580, 12591, 12592, 12616, 12628, 12651, 12663, 12723, 12724, 12735, 12736, 17122, 17123, 17134, 17135, 17195, 17207, 17230, 17242, 17266, 17267, 17278, 17279, 17332, 17333, 17350, 17351, 17405, 17423, 17440, 17458, 17476, 17477, 17494, 17495, 17764, 17765, 17770, 17771, 17837, 17843, 17872, 17878, 17908, 17909, 17914, 17915, 18417, 18419, 18429, 18431, 18455, 18467, 18525, 18537, 18561, 18563, 18573, 18575, 18627, 18629, 18645, 18647, 18665, 18683, 18735, 18753, 18771, 18773, 18789, 18791, 19059, 19061, 19065, 19067, 19097, 19103, 19167, 19173, 19203, 19205, 19209, 19211, 19713, 19714, 19725, 19726, 19750, 19762, 19785, 19797, 19857, 19858, 19869, 19870, 19923, 19924, 19941, 19942, 19960, 19978, 19995, 20013, 20067, 20068, 20085, 20086, 20355, 20356, 20361, 20362, 20392, 20398, 20427, 20433, 20499, 20500, 20505, 20506, 48227, 48233, 48239, 48371, 48377, 48383, 48437, 48449, 48455, 48581, 48593, 48599, 48653, 48659, 48671, 48797, 48803, 48815, 48869, 48875, 48881, 49013, 49019, 49025, 50817, 50823, 50829, 50961, 50967, 50973, 51027, 51039, 51045, 51171, 51183, 51189, 51243, 51249, 51261, 51387, 51393, 51405, 51459, 51465, 51471, 51603, 51609, 51615, 54711, 54713, 54717, 54719, 54749, 54755, 54819, 54825, 54855, 54857, 54861, 54863, 55131, 55133, 55149, 55151, 55169, 55187, 55239, 55257, 55275, 55277, 55293, 55295, 55347, 55349, 55359, 55361, 55385, 55397, 55455, 55467, 55491, 55493, 55503, 55505, 55781, 55793, 55799, 55925, 55937, 55943, 55973, 55979, 55985, 56004, 56009, 56010, 56015, 56112, 56118, 56129, 56148, 56153, 56154, 56159, 56393, 56411, 56417, 56424, 56429, 56442, 56447, 56532, 56550, 56561, 56568, 56573, 56586, 56591, 56609, 56621, 56633, 56640, 56645, 56652, 56657, 56748, 56760, 56777, 56784, 56789, 56796, 56801, 58371, 58383, 58389, 58515, 58527, 58533, 58563, 58569, 58575, 58596, 58599, 58602, 58605, 58632, 58638, 58719, 58740, 58743, 58746, 58749, 58983, 59001, 59007, 59016, 59019, 59034, 59037, 59052, 59070, 59151, 59160, 59163, 59178, 59181, 59199, 59211, 59223, 59232, 59235, 59244, 59247, 59268, 59280, 59367, 59376, 59379, 59388, 59391, 62481, 62483, 62493, 62495, 62519, 62531, 62589, 62601, 62625, 62627, 62637, 62639, 62691, 62693, 62709, 62711, 62729, 62747, 62799, 62817, 62835, 62837, 62853, 62855, 63123, 63125, 63129, 63131, 63161, 63167, 63231, 63237, 63267, 63269, 63273, 63275, 63557, 63563, 63575, 63701, 63707, 63719, 63743, 63755, 63761, 63774, 63779, 63786, 63791, 63882, 63894, 63905, 63918, 63923, 63930, 63935, 63953, 63971, 63977, 63984, 63989, 64002, 64007, 64092, 64110, 64121, 64128, 64133, 64146, 64151, 64385, 64391, 64409, 64416, 64421, 64422, 64427, 64524, 64530, 64553, 64560, 64565, 64566, 64571, 66147, 66153, 66165, 66291, 66297, 66309, 66333, 66345, 66351, 66366, 66369, 66378, 66381, 66402, 66414, 66495, 66510, 66513, 66522, 66525, 66543, 66561, 66567, 66576, 66579, 66594, 66597, 66612, 66630, 66711, 66720, 66723, 66738, 66741, 66975, 66981, 66999, 67008, 67011, 67014, 67017, 67044, 67050, 67143, 67152, 67155, 67158, 67161] : List Nat).map (encS 7)
@[irreducible] def SL8 : List PyData := ([56153, 56159, 56591, 56801, 57017, 57023, 59933, 59939, 60371, 60581, 60797, 60803, 63923, 63935, 64151, 64571, 64787, 64799, 67703, 67715, 67931, 68351, 68567, 68579, 71699, 71705, 71921, 72131, 72563, 72569, 75479, 75485, 75701, 75911, 76343, 76349, 102808, 102814, 103246, 103456, 103672, 103678, 106588, 106594, 107026, 107236, 107452, 107458, 110578, 110590, 110806, 111226, 111442, 111454, 114358, 114370, 114586, 115006, 115222, 115234, 118354, 118360, 118576, 118786, 119218, 119224, 122134, 122140, 122356, 122566, 122998, 123004, 289367, 289402, 289438, 289439, 290231, 290266, 290302, 290303, 290627, 290735, 291491, 291599, 291922, 292030, 292786, 292894, 293218, 293219, 293255, 293290, 294082, 294083, 294119, 294154, 304907, 304942, 304978, 304979, 305771, 305806, 305842, 305843, 306167, 306275, 307031, 307139, 307462, 307570, 308326, 308434, 308758, 308759, 308795, 308830, 309622, 309623, 309659, 309694, 328307, 328319, 328535, 328955, 329171, 329183, 332087, 332099, 332315, 332735, 332951, 332963, 334691, 334799, 335555, 335663, 335879, 335915, 336054, 336065, 336090, 336095, 336713, 336779, 336918, 336929, 336954, 336959, 338574, 338682, 339438, 339546, 339659, 339803, 339845, 339870, 339875, 339942, 340493, 340667, 340709, 340734, 340739, 340806, 350231, 350339, 351095, 351203, 351419, 351455, 351594, 351617, 351630, 351635, 351833, 352319, 352458, 352481, 352494, 352499, 354114, 354222, 354978, 355086, 355199, 355343, 355397, 355410, 355415, 355482, 355613, 356207, 356261, 356274, 356279, 356346, 374962, 374974, 375190, 375610, 375826, 375838, 378742, 378754, 378970, 379390, 379606, 379618, 381346, 381454, 382210, 382318, 382534, 382570, 382674, 382720, 382746, 382750, 383368, 383434, 383538, 383584, 383610, 383614, 383934, 384042, 384798, 384906, 386314, 386458, 386500, 386526, 386530, 386562, 387148, 387322, 387364, 387390, 387394, 387426, 396886, 396994, 397750, 397858, 398074, 398110, 398214, 398272, 398286, 398290, 398488, 398974, 399078, 399136, 399150, 399154, 399474, 399582, 400338, 400446, 401854, 401998, 402052, 402066, 402070, 402102, 402268, 402862, 402916, 402930, 402934, 402966] : List Nat).map (encS 8)
@[irreducible] def SL9 : List PyData := ([336959, 342143, 359639, 364823, 430199, 435383, 452879, 458063, 616889, 622073, 639569, 644753, 710129, 715313, 732809, 737993, 2016570, 2021754, 2039250, 2044434, 2109810, 2114994, 2132490, 2137674, 2296500, 2301684, 2319180, 2324364, 2389740, 2394924, 2412420, 2417604] : List Nat).map (encS 9)
def lots5 : List PyData := [.tuple [.tuple [.int 0, .int 0], .tuple [.int 0, .int 1], .tuple [.int 0, .int 2], .tuple [.int 0, .int 3], .tuple [.int 0, .int 4], .tuple [.int 4, .int 1], .tuple [.int 4, .int 2], .tuple [.int 4, .int 3]], .tuple [.tuple [.int 0, .int 0], .tuple [.int 0, .int 1], .tuple [.int 0, .int 2], .tuple [.int 0, .int 3], .tuple [.int 4, .int 0], .tuple [.int 4, .int 1], .tuple [.int 4, .int 2], .tuple [.int 4, .int 3]], .tuple [.tuple [.int 0, .int 0], .tuple [.int 0, .int 1], .tuple [.int 0, .int 2], .tuple [.int 0, .int 4], .tuple [.int 1, .int 4], .tuple [.int 3, .int 0], .tuple [.int 4, .int 2], .tuple [.int 4, .int 3]], .tuple [.tuple [.int 0, .int 0], .tuple [.int 0, .int 1], .tuple [.int 0, .int 2], .tuple [.int 1, .int 4], .tuple [.int 3, .int 0], .tuple [.int 4, .int 0], .tuple [.int 4, .int 2], .tuple [.int 4, .int 3]], .tuple [.tuple [.int 0, .int 0], .tuple [.int 0, .int 1], .tuple [.int 0, .int 3], .tuple [.int 0, .int 4], .tuple [.int 2, .int 0], .tuple [.int 2, .int 4], .tuple [.int 4, .int 1], .tuple [.int 4, .int 3]], .tuple [.tuple [.int 0, .int 0], .tuple [.int 0, .int 1], .tuple [.int 0, .int 3], .tuple [.int 2, .int 0], .tuple [.int 2, .int 4], .tuple [.int 4, .int 0], .tuple [.int 4, .int 1], .tuple [.int 4, .int 3]], .tuple [.tuple [.int 0, .int 0], .tuple [.int 0, .int 1], .tuple [.int 0, .int 4], .tuple [.int 1, .int 4], .tuple [.int 2, .int 0], .tuple [.int 2, .int 4], .tuple [.int 3, .int 0], .tuple [.int 4, .int 3]], .tuple [.tuple [.int 0, .int 0], .tuple [.int 0, .int 1], .tuple [.int 1, .int 4], .tuple [.int 2, .int 0], .tuple [.int 2, .int 4], .tuple [.int 3, .int 0], .tuple [.int 4, .int 0], .tuple [.int 4, .int 3]], .tuple [.tuple [.int 0, .int 0], .tuple [.int 0, .int 2], .tuple [.int 0, .int 3], .tuple [.int 0, .int 4], .tuple [.int 1, .int 0], .tuple [.int 3, .int 4], .tuple [.int 4, .int 1], .tuple [.int 4, .int 2]], .tuple [.tuple [.int 0, .int 0], .tuple [.int 0, .int 2], .tuple [.int 0, .int 3], .tuple [.int 1, .int 0], .tuple [.int 3, .int 4], .tuple [.int 4, .int 0], .tuple [.int 4, .int 1], .tuple [.int 4, .int 2]], .tuple [.tuple [.int 0, .int 0], .tuple [.int 0, .int 2], .tuple [.int 0, .int 4], .tuple [.int 1, .int 0], .tuple [.int 1, .int 4], .tuple [.int 3, .int 0], .tuple [.int 3, .int 4], .tuple [.int 4, .int 2]], .tuple [.tuple [.int 0, .int 0], .tuple [.int 0, .int 2], .tuple [.int 1, .int 0], .tuple [.int 1, .int 4], .tuple [.int 3, .int 0], .tuple [.int 3, .int 4], .tuple [.int 4, .int 0], .tuple [.int 4, .int 2]], .tuple [.tuple [.int 0, .int 0], .tuple [.int 0, .int 3], .tuple [.int 0, .int 4], .tuple [.int 1, .int 0], .tuple [.int 2, .int 0], .tuple [.int 2, .int 4], .tuple [.int 3, .int 4], .tuple [.int 4, .int 1]], .tuple [.tuple [.int 0, .int 0], .tuple [.int 0, .int 3], .tuple [.int 1, .int 0], .tuple [.int 2, .int 0], .tuple [.int 2, .int 4], .tuple [.int 3, .int 4], .tuple [.int 4, .int 0], .tuple [.int 4, .int 1]], .tuple [.tuple [.int 0, .int 0], .tuple [.int 0, .int 4], .tuple [.int 1, .int 0], .tuple [.int 1, .int 4], .tuple [.int 2, .int 0], .tuple [.int 2, .int 4], .tuple [.int 3, .int 0], .tuple [.int 3, .int 4]], .tuple [.tuple [.int 0, .int 0], .tuple [.int 1, .int 0], .tuple [.int 1, .int 4], .tuple [.int 2, .int 0], .tuple [.int 2, .int 4], .tuple [.int 3, .int 0], .tuple [.int 3, .int 4], .tuple [.int 4, .int 0]], .tuple [.tuple [.int 0, .int 1], .tuple [.int 0, .int 2], .tuple [.int 0, .int 3], .tuple [.int 0, .int 4], .tuple [.int 4, .int 1], .tuple [.int 4, .int 2], .tuple [.int 4, .int 3], .tuple [.int 4, .int 4]], .tuple [.tuple [.int 0, .int 1], .tuple [.int 0, .int 2], .tuple [.int 0, .int 3], .tuple [.int 4, .int 0], .tuple [.int 4, .int 1], .tuple [.int 4, .int 2], .tuple [.int 4, .int 3], .tuple [.int 4, .int 4]], .tuple [.tuple [.int 0, .int 1], .tuple [.int 0, .int 2], .tuple [.int 0, .int 4], .tuple [.int 1, .int 4], .tuple [.int 3, .int 0], .tuple [.int 4, .int 2], .tuple [.int 4, .int 3], .tuple [.int 4, .int 4]], .tuple [.tuple [.int 0, .int 1], .tuple [.int 0, .int 2], .tuple [.int 1, .int 4], .tuple [.int 3, .int 0], .tuple [.int 4, .int 0], .tuple [.int 4, .int 2], .tuple [.int 4, .int 3], .tuple [.int 4, .int 4]], .tuple [.tuple [.int 0, .int 1], .tuple [.int 0, .int 3], .tuple [.int 0, .int 4], .tuple [.int 2, .int 0], .tuple [.int 2, .int 4], .tuple [.int 4, .int 1], .tuple [.int 4, .int 3], .tuple [.int 4, .int 4]], .tuple [.tuple [.int 0, .int 1], .tuple [.int 0, .int 3], .tuple [.int 2, .int 0], .tuple [.int 2, .int 4], .tuple [.int 4, .int 0], .tuple [.int 4, .int 1], .tuple [.int 4, .int 3], .tuple [.int 4, .int 4]], .tuple [.tuple [.int 0, .int 1], .tuple [.int 0, .int 4], .tuple [.int 1, .int 4], .tuple [.int 2, .int 0], .tuple [.int 2, .int 4], .tuple [.int 3, .int 0], .tuple [.int 4, .int 3], .tuple [.int 4, .int 4]], .tuple [.tuple [.int 0, .int 1], .tuple [.int 1, .int 4], .tuple [.int 2, .int 0], .tuple [.int 2, .int 4], .tuple [.int 3, .int 0], .tuple [.int 4, .int 0], .tuple [.int 4, .int 3], .tuple [.int 4, .int 4]], .tuple [.tuple [.int 0, .int 2], .tuple [.int 0, .int 3], .tuple [.int 0, .int 4], .tuple [.int 1, .int 0], .tuple [.int 3, .int 4], .tuple [.int 4, .int 1], .tuple [.int 4, .int 2], .tuple [.int 4, .int 4]], .tuple [.tuple [.int 0, .int 2], .tuple [.int 0, .int 3], .tuple [.int 1, .int 0], .tuple [.int 3, .int 4], .tuple [.int 4, .int 0], .tuple [.int 4, .int 1], .tuple [.int 4, .int 2], .tuple [.int 4, .int 4]], .tuple [.tuple [.int 0, .int 2], .tuple [.int 0, .int 4], .tuple [.int 1, .int 0], .tuple [.int 1, .int 4], .tuple [.int 3, .int 0], .tuple [.int 3, .int 4], .tuple [.int 4, .int 2], .tuple [.int 4, .int 4]], .tuple [.tuple [.int 0, .int 2], .tuple [.int 1, .int 0], .tuple [.int 1, .int 4], .tuple [.int 3, .int 0], .tuple [.int 3, .int 4], .tuple [.int 4, .int 0], .tuple [.int 4, .int 2], .tuple [.int 4, .int 4]], .tuple [.tuple [.int 0, .int 3], .tuple [.int 0, .int 4], .tuple [.int 1, .int 0], .tuple [.int 2, .int 0], .tuple [.int 2, .int 4], .tuple [.int 3, .int 4], .tuple [.int 4, .int 1], .tuple [.int 4, .int 4]], .tuple [.tuple [.int 0, .int 3], .tuple [.int 1, .int 0], .tuple [.int 2, .int 0], .tuple [.int 2, .int 4], .tuple [.int 3, .int 4], .tuple [.int 4, .int 0], .tuple [.int 4, .int 1], .tuple [.int 4, .int 4]], .tuple [.tuple [.int 0, .int 4], .tuple [.int 1, .int 0], .tuple [.int 1, .int 4], .tuple [.int 2, .int 0], .tuple [.int 2, .int 4], .tuple [.int 3, .int 0], .tuple [.int 3, .int 4], .tuple [.int 4, .int 4]], .tuple [.tuple [.int 1, .int 0], .tuple [.int 1, .int 4], .tuple [.int 2, .int 0], .tuple [.int 2, .int 4], .tuple [.int 3, .int 0], .tuple [.int 3, .int 4], .tuple [.int 4, .int 0], .tuple [.int 4, .int 4]]]
theorem slst0 (x5 x6 x7 x8 x9 x10 x11 : Option Ob) : nxW [5, 6, 7, 8, 9, 10, 11] (fun ρ => (lg2__law_slants (.int 0) ρ).bind lb2__law_slants) [some (.fr (.int 5)), some (.fr (.int 8)), some (.fr (.int 1)), some (.fr (.list [])), some (.fr (.list SL0)), x5, x6, x7, x8, x9, x10, x11] = some [some (.fr (.int 5)), some (.fr (.int 8)), some (.fr (.int 1)), some (.fr (.list [])), some (.fr (.list SL1)), none, none, none, none, none, none, none] := by kernel_rfl
theorem slst1 (x5 x6 x7 x8 x9 x10 x11 : Option Ob) : nxW [5, 6, 7, 8, 9, 10, 11] (fun ρ => (lg2__law_slants (.int 1) ρ).bind lb2__law_slants) [some (.fr (.int 5)), some (.fr (.int 8)), some (.fr (.int 1)), some (.fr (.list [])), some (.fr (.list SL1)), x5, x6, x7, x8, x9, x10, x11] = some [some (.fr (.int 5)), some (.fr (.int 8)), some (.fr (.int 1)), some (.fr (.list [])), some (.fr (.list SL2)), none, none, none, none, none, none, none] := by kernel_rfl
theorem slst2 (x5 x6 x7 x8 x9 x10 x11 : Option Ob) : nxW [5, 6, 7, 8, 9, 10, 11] (fun ρ => (lg2__law_slants (.int 2) ρ).bind lb2__law_slants) [some (.fr (.int 5)), some (.fr (.int 8)), some (.fr (.int 1)), some (.fr (.list [])), some (.fr (.list SL2)), x5, x6, x7, x8, x9, x10, x11] = some [some (.fr (.int 5)), some (.fr (.int 8)), some (.fr (.int 1)), some (.fr (.list [])), some (.fr (.list SL3)), none, none, none, none, none, none, none] := by kernel_rfl
theorem slst3 (x5 x6 x7 x8 x9 x10 x11 : Option Ob) : nxW [5, 6, 7, 8, 9, 10, 11] (fun ρ => (lg2__law_slants (.int 3) ρ).bind lb2__law_slants) [some (.fr (.int 5)), some (.fr (.int 8)), some (.fr (.int 1)), some (.fr (.list [])), some (.fr (.list SL3)), x5, x6, x7, x8, x9, x10, x11] = some [some (.fr (.int 5)), some (.fr (.int 8)), some (.fr (.int 1)), some (.fr (.list [])), some (.fr (.list SL4)), none, none, none, none, none, none, none] := by kernel_rfl
theorem slst4 (x5 x6 x7 x8 x9 x10 x11 : Option Ob) : nxW [5, 6, 7, 8, 9, 10, 11] (fun ρ => (lg2__law_slants (.int 4) ρ).bind lb2__law_slants) [some (.fr (.int 5)), some (.fr (.int 8)), some (.fr (.int 1)), some (.fr (.list [])), some (.fr (.list SL4)), x5, x6, x7, x8, x9, x10, x11] = some [some (.fr (.int 5)), some (.fr (.int 8)), some (.fr (.int 1)), some (.fr (.list [])), some (.fr (.list SL5)), none, none, none, none, none, none, none] := by kernel_rfl
theorem slst5 (x5 x6 x7 x8 x9 x10 x11 : Option Ob) : nxW [5, 6, 7, 8, 9, 10, 11] (fun ρ => (lg2__law_slants (.int 5) ρ).bind lb2__law_slants) [some (.fr (.int 5)), some (.fr (.int 8)), some (.fr (.int 1)), some (.fr (.list [])), some (.fr (.list SL5)), x5, x6, x7, x8, x9, x10, x11] = some [some (.fr (.int 5)), some (.fr (.int 8)), some (.fr (.int 1)), some (.fr (.list [])), some (.fr (.list SL6)), none, none, none, none, none, none, none] := by kernel_rfl
theorem slst6 (x5 x6 x7 x8 x9 x10 x11 : Option Ob) : nxW [5, 6, 7, 8, 9, 10, 11] (fun ρ => (lg2__law_slants (.int 6) ρ).bind lb2__law_slants) [some (.fr (.int 5)), some (.fr (.int 8)), some (.fr (.int 1)), some (.fr (.list [])), some (.fr (.list SL6)), x5, x6, x7, x8, x9, x10, x11] = some [some (.fr (.int 5)), some (.fr (.int 8)), some (.fr (.int 1)), some (.fr (.list [])), some (.fr (.list SL7)), none, none, none, none, none, none, none] := by kernel_rfl
theorem slst7 (x5 x6 x7 x8 x9 x10 x11 : Option Ob) : nxW [5, 6, 7, 8, 9, 10, 11] (fun ρ => (lg2__law_slants (.int 7) ρ).bind lb2__law_slants) [some (.fr (.int 5)), some (.fr (.int 8)), some (.fr (.int 1)), some (.fr (.list [])), some (.fr (.list SL7)), x5, x6, x7, x8, x9, x10, x11] = some [some (.fr (.int 5)), some (.fr (.int 8)), some (.fr (.int 1)), some (.fr (.list [])), some (.fr (.list SL8)), none, none, none, none, none, none, none] := by kernel_rfl
theorem slst8 (x5 x6 x7 x8 x9 x10 x11 : Option Ob) : nxW [5, 6, 7, 8, 9, 10, 11] (fun ρ => (lg2__law_slants (.int 8) ρ).bind lb2__law_slants) [some (.fr (.int 5)), some (.fr (.int 8)), some (.fr (.int 1)), some (.fr (.list [])), some (.fr (.list SL8)), x5, x6, x7, x8, x9, x10, x11] = some [some (.fr (.int 5)), some (.fr (.int 8)), some (.fr (.int 1)), some (.fr (.list [])), some (.fr (.list SL9)), none, none, none, none, none, none, none] := by kernel_rfl
theorem for_step {ga : FT} {fb : FS} {d : PyData} {ds : List PyData} {ρ ρ2 : DL.Env} {Q : Out → Prop} (js : List Nat) (h : nxW js (fun ρ => (ga d ρ).bind fb) ρ = some ρ2) (k : ∀ xs : List (Option Ob), xs.length = js.length → ∃ r, forL ga fb ds (fillE ρ2 (js.zip xs)) = some r ∧ Q r) : ∃ r, forL ga fb (d :: ds) ρ = some r ∧ Q r := by
  obtain ⟨q, e, h⟩ := bind_some h
  obtain ⟨ρ1, e1, e2⟩ := bind_some (show (ga d ρ).bind fb = some q from e)
  cases q with
  | nx ρ3 =>
    cases h
    obtain ⟨xs, h1, h2⟩ := wipe_fill ρ3 js
    obtain ⟨r, q, hr⟩ := k xs h1
    rw [h2] at q
    refine ⟨r, ?_, hr⟩
    show ((ga d ρ).bind fun ρ1 => (fb ρ1).bind _) = _
    rw [e1, Option.bind_some, e2]
    exact q
  | _ => cases h
theorem slgo9 (x5 x6 x7 x8 x9 x10 x11 : Option Ob) : ∃ r, forL lg2__law_slants lb2__law_slants [] [some (.fr (.int 5)), some (.fr (.int 8)), some (.fr (.int 1)), some (.fr (.list [])), some (.fr (.list SL9)), x5, x6, x7, x8, x9, x10, x11] = some r ∧ ∃ y5 y6 y7 y8 y9 y10 y11, r = .nx [some (.fr (.int 5)), some (.fr (.int 8)), some (.fr (.int 1)), some (.fr (.list [])), some (.fr (.list SL9)), y5, y6, y7, y8, y9, y10, y11] := ⟨_, rfl, x5, x6, x7, x8, x9, x10, x11, rfl⟩
theorem slgo8 (x5 x6 x7 x8 x9 x10 x11 : Option Ob) : ∃ r, forL lg2__law_slants lb2__law_slants [.int 8] [some (.fr (.int 5)), some (.fr (.int 8)), some (.fr (.int 1)), some (.fr (.list [])), some (.fr (.list SL8)), x5, x6, x7, x8, x9, x10, x11] = some r ∧ ∃ y5 y6 y7 y8 y9 y10 y11, r = .nx [some (.fr (.int 5)), some (.fr (.int 8)), some (.fr (.int 1)), some (.fr (.list [])), some (.fr (.list SL9)), y5, y6, y7, y8, y9, y10, y11] := for_step [5, 6, 7, 8, 9, 10, 11] (slst8 x5 x6 x7 x8 x9 x10 x11) fun ys h => match ys, h with | [a, b, c, d, e, f, g], _ => slgo9 a b c d e f g
theorem slgo7 (x5 x6 x7 x8 x9 x10 x11 : Option Ob) : ∃ r, forL lg2__law_slants lb2__law_slants [.int 7, .int 8] [some (.fr (.int 5)), some (.fr (.int 8)), some (.fr (.int 1)), some (.fr (.list [])), some (.fr (.list SL7)), x5, x6, x7, x8, x9, x10, x11] = some r ∧ ∃ y5 y6 y7 y8 y9 y10 y11, r = .nx [some (.fr (.int 5)), some (.fr (.int 8)), some (.fr (.int 1)), some (.fr (.list [])), some (.fr (.list SL9)), y5, y6, y7, y8, y9, y10, y11] := for_step [5, 6, 7, 8, 9, 10, 11] (slst7 x5 x6 x7 x8 x9 x10 x11) fun ys h => match ys, h with | [a, b, c, d, e, f, g], _ => slgo8 a b c d e f g
theorem slgo6 (x5 x6 x7 x8 x9 x10 x11 : Option Ob) : ∃ r, forL lg2__law_slants lb2__law_slants [.int 6, .int 7, .int 8] [some (.fr (.int 5)), some (.fr (.int 8)), some (.fr (.int 1)), some (.fr (.list [])), some (.fr (.list SL6)), x5, x6, x7, x8, x9, x10, x11] = some r ∧ ∃ y5 y6 y7 y8 y9 y10 y11, r = .nx [some (.fr (.int 5)), some (.fr (.int 8)), some (.fr (.int 1)), some (.fr (.list [])), some (.fr (.list SL9)), y5, y6, y7, y8, y9, y10, y11] := for_step [5, 6, 7, 8, 9, 10, 11] (slst6 x5 x6 x7 x8 x9 x10 x11) fun ys h => match ys, h with | [a, b, c, d, e, f, g], _ => slgo7 a b c d e f g
theorem slgo5 (x5 x6 x7 x8 x9 x10 x11 : Option Ob) : ∃ r, forL lg2__law_slants lb2__law_slants [.int 5, .int 6, .int 7, .int 8] [some (.fr (.int 5)), some (.fr (.int 8)), some (.fr (.int 1)), some (.fr (.list [])), some (.fr (.list SL5)), x5, x6, x7, x8, x9, x10, x11] = some r ∧ ∃ y5 y6 y7 y8 y9 y10 y11, r = .nx [some (.fr (.int 5)), some (.fr (.int 8)), some (.fr (.int 1)), some (.fr (.list [])), some (.fr (.list SL9)), y5, y6, y7, y8, y9, y10, y11] := for_step [5, 6, 7, 8, 9, 10, 11] (slst5 x5 x6 x7 x8 x9 x10 x11) fun ys h => match ys, h with | [a, b, c, d, e, f, g], _ => slgo6 a b c d e f g
theorem slgo4 (x5 x6 x7 x8 x9 x10 x11 : Option Ob) : ∃ r, forL lg2__law_slants lb2__law_slants [.int 4, .int 5, .int 6, .int 7, .int 8] [some (.fr (.int 5)), some (.fr (.int 8)), some (.fr (.int 1)), some (.fr (.list [])), some (.fr (.list SL4)), x5, x6, x7, x8, x9, x10, x11] = some r ∧ ∃ y5 y6 y7 y8 y9 y10 y11, r = .nx [some (.fr (.int 5)), some (.fr (.int 8)), some (.fr (.int 1)), some (.fr (.list [])), some (.fr (.list SL9)), y5, y6, y7, y8, y9, y10, y11] := for_step [5, 6, 7, 8, 9, 10, 11] (slst4 x5 x6 x7 x8 x9 x10 x11) fun ys h => match ys, h with | [a, b, c, d, e, f, g], _ => slgo5 a b c d e f g
theorem slgo3 (x5 x6 x7 x8 x9 x10 x11 : Option Ob) : ∃ r, forL lg2__law_slants lb2__law_slants [.int 3, .int 4, .int 5, .int 6, .int 7, .int 8] [some (.fr (.int 5)), some (.fr (.int 8)), some (.fr (.int 1)), some (.fr (.list [])), some (.fr (.list SL3)), x5, x6, x7, x8, x9, x10, x11] = some r ∧ ∃ y5 y6 y7 y8 y9 y10 y11, r = .nx [some (.fr (.int 5)), some (.fr (.int 8)), some (.fr (.int 1)), some (.fr (.list [])), some (.fr (.list SL9)), y5, y6, y7, y8, y9, y10, y11] := for_step [5, 6, 7, 8, 9, 10, 11] (slst3 x5 x6 x7 x8 x9 x10 x11) fun ys h => match ys, h with | [a, b, c, d, e, f, g], _ => slgo4 a b c d e f g
theorem slgo2 (x5 x6 x7 x8 x9 x10 x11 : Option Ob) : ∃ r, forL lg2__law_slants lb2__law_slants [.int 2, .int 3, .int 4, .int 5, .int 6, .int 7, .int 8] [some (.fr (.int 5)), some (.fr (.int 8)), some (.fr (.int 1)), some (.fr (.list [])), some (.fr (.list SL2)), x5, x6, x7, x8, x9, x10, x11] = some r ∧ ∃ y5 y6 y7 y8 y9 y10 y11, r = .nx [some (.fr (.int 5)), some (.fr (.int 8)), some (.fr (.int 1)), some (.fr (.list [])), some (.fr (.list SL9)), y5, y6, y7, y8, y9, y10, y11] := for_step [5, 6, 7, 8, 9, 10, 11] (slst2 x5 x6 x7 x8 x9 x10 x11) fun ys h => match ys, h with | [a, b, c, d, e, f, g], _ => slgo3 a b c d e f g
theorem slgo1 (x5 x6 x7 x8 x9 x10 x11 : Option Ob) : ∃ r, forL lg2__law_slants lb2__law_slants [.int 1, .int 2, .int 3, .int 4, .int 5, .int 6, .int 7, .int 8] [some (.fr (.int 5)), some (.fr (.int 8)), some (.fr (.int 1)), some (.fr (.list [])), some (.fr (.list SL1)), x5, x6, x7, x8, x9, x10, x11] = some r ∧ ∃ y5 y6 y7 y8 y9 y10 y11, r = .nx [some (.fr (.int 5)), some (.fr (.int 8)), some (.fr (.int 1)), some (.fr (.list [])), some (.fr (.list SL9)), y5, y6, y7, y8, y9, y10, y11] := for_step [5, 6, 7, 8, 9, 10, 11] (slst1 x5 x6 x7 x8 x9 x10 x11) fun ys h => match ys, h with | [a, b, c, d, e, f, g], _ => slgo2 a b c d e f g
theorem slgo0 (x5 x6 x7 x8 x9 x10 x11 : Option Ob) : ∃ r, forL lg2__law_slants lb2__law_slants [.int 0, .int 1, .int 2, .int 3, .int 4, .int 5, .int 6, .int 7, .int 8] [some (.fr (.int 5)), some (.fr (.int 8)), some (.fr (.int 1)), some (.fr (.list [])), some (.fr (.list SL0)), x5, x6, x7, x8, x9, x10, x11] = some r ∧ ∃ y5 y6 y7 y8 y9 y10 y11, r = .nx [some (.fr (.int 5)), some (.fr (.int 8)), some (.fr (.int 1)), some (.fr (.list [])), some (.fr (.list SL9)), y5, y6, y7, y8, y9, y10, y11] := for_step [5, 6, 7, 8, 9, 10, 11] (slst0 x5 x6 x7 x8 x9 x10 x11) fun ys h => match ys, h with | [a, b, c, d, e, f, g], _ => slgo1 a b c d e f g
theorem slfin (x5 x6 x7 x8 x9 x10 x11 : Option Ob) : ∃ t, fRet (oL (g1 sortA) (lCons (oLc 12 [7, 8, 9] (iSeq (frV 4)) (gT 3 (gCons' (gN 7) (gCons' (gN 8) (gCons' (gN 9) gNil')))) (bO (o2 eqO (oL (g1 lenA) (lCons (rdV 7) lNil)) (rdV 1))) (oL (g1 tupO) (lCons (oL (g1 sortA) (lCons (rdV 7) lNil)) lNil))) lNil)) [some (.fr (.int 5)), some (.fr (.int 8)), some (.fr (.int 1)), some (.fr (.list [])), some (.fr (.list SL9)), x5, x6, x7, x8, x9, x10, x11] = some (.rt (.lst lots5) t) := ⟨[some (.fr (.int 5)), some (.fr (.int 8)), some (.fr (.int 1)), some (.fr (.list [])), some (.fr (.list SL9)), x5, x6, x7, x8, x9, x10, x11], by kernel_rfl⟩
theorem fnOf_rt {m : Nat} {b : FS} {ds : List PyData} {o : Ob} {t : DL.Env} (h : b (startE m ds) = some (.rt o t)) : fnOf m b ds = some o := by
  unfold fnOf
  rw [h]; rfl
theorem slants5 : F__law_slants [.int 5, .int 8, .int 1] = some (.lst lots5) := by
  have run : ∃ t, b__law_slants (startE 12 [.int 5, .int 8, .int 1]) = some (.rt (.lst lots5) t) := by
    obtain ⟨r, loop, x5, x6, x7, x8, x9, x10, x11, rfl⟩ := slgo0 none none none none none none none
    obtain ⟨t, fin⟩ := slfin x5 x6 x7 x8 x9 x10 x11
    refine ⟨t, ?_⟩
    unfold b__law_slants
    refine (fSeq_nx (ρ' := [some (.fr (.int 5)), some (.fr (.int 8)), some (.fr (.int 1)), some (.lst []), none, none, none, none, none, none, none, none]) rfl).trans ?_
    refine (fSeq_nx (ρ' := [some (.fr (.int 5)), some (.fr (.int 8)), some (.fr (.int 1)), some (.fr (.list [])), none, none, none, none, none, none, none, none]) rfl).trans ?_
    refine (fSeq_nx (ρ' := [some (.fr (.int 5)), some (.fr (.int 8)), some (.fr (.int 1)), some (.fr (.list [])), some (.lst SL0), none, none, none, none, none, none, none]) rfl).trans ?_
    refine (fSeq_nx (ρ' := [some (.fr (.int 5)), some (.fr (.int 8)), some (.fr (.int 1)), some (.fr (.list [])), some (.fr (.list SL0)), none, none, none, none, none, none, none]) rfl).trans ?_
    have hi : DL.iRng1 (lCons (o2 subI (o2 mulO (kO (.int 2)) (rdV 0)) (kO (.int 1))) lNil) [some (.fr (.int 5)), some (.fr (.int 8)), some (.fr (.int 1)), some (.fr (.list [])), some (.fr (.list SL0)), none, none, none, none, none, none, none] = some [.int 0, .int 1, .int 2, .int 3, .int 4, .int 5, .int 6, .int 7, .int 8] := by kernel_rfl
    have e5 : fFor (DL.iRng1 (lCons (o2 subI (o2 mulO (kO (.int 2)) (rdV 0)) (kO (.int 1))) lNil)) lg2__law_slants lb2__law_slants [some (.fr (.int 5)), some (.fr (.int 8)), some (.fr (.int 1)), some (.fr (.list [])), some (.fr (.list SL0)), none, none, none, none, none, none, none] = some (.nx [some (.fr (.int 5)), some (.fr (.int 8)), some (.fr (.int 1)), some (.fr (.list [])), some (.fr (.list SL9)), x5, x6, x7, x8, x9, x10, x11]) := by
      unfold fFor
      rw [hi, Option.bind_some]
      exact loop
    exact (fSeq_nx e5).trans fin
  obtain ⟨t, e⟩ := run
  exact fnOf_rt e
def retT (f : FS) (ρ : DL.Env) : Bool := match f ρ with
  | some (.rt (.fr (.bool true)) _) => true
  | _ => false
theorem b5c0 : c0__law_bishops_right [some (.fr (.int 5)), none, none, none, none, none, none] = some (.nx [some (.fr (.int 5)), some (.fr (.tuple [.tuple [.int 0, .int 0], .tuple [.int 0, .int 1], .tuple [.int 0, .int 2], .tuple [.int 0, .int 3], .tuple [.int 0, .int 4], .tuple [.int 4, .int 1], .tuple [.int 4, .int 2], .tuple [.int 4, .int 3]])), none, none, none, none, none]) := by kernel_rfl
theorem b5c2 : retT (fSeq c2__law_bishops_right c3__law_bishops_right) [some (.fr (.int 5)), some (.fr (.tuple [.tuple [.int 0, .int 0], .tuple [.int 0, .int 1], .tuple [.int 0, .int 2], .tuple [.int 0, .int 3], .tuple [.int 0, .int 4], .tuple [.int 4, .int 1], .tuple [.int 4, .int 2], .tuple [.int 4, .int 3]])), some (.lst lots5), none, none, none, none] = true := by kernel_rfl
theorem b5c1 : c1__law_bishops_right [some (.fr (.int 5)), some (.fr (.tuple [.tuple [.int 0, .int 0], .tuple [.int 0, .int 1], .tuple [.int 0, .int 2], .tuple [.int 0, .int 3], .tuple [.int 0, .int 4], .tuple [.int 4, .int 1], .tuple [.int 4, .int 2], .tuple [.int 4, .int 3]])), none, none, none, none, none] = some (.nx [some (.fr (.int 5)), some (.fr (.tuple [.tuple [.int 0, .int 0], .tuple [.int 0, .int 1], .tuple [.int 0, .int 2], .tuple [.int 0, .int 3], .tuple [.int 0, .int 4], .tuple [.int 4, .int 1], .tuple [.int 4, .int 2], .tuple [.int 4, .int 3]])), some (.lst lots5), none, none, none, none]) := by
  have h : oIf (bO (o2 gtA (rdV 0) (kO (.int 1)))) (dCall 3 F__law_slants (aCons (frV 0) (aCons (o2 subI (o2 mulO (kO (.int 2)) (rdV 0)) (kO (.int 2))) (aCons (kO (.int 1)) aNil)))) (dLst (aCons (dTup (aCons (dTup (aCons (kO (.int 0)) (aCons (kO (.int 0)) aNil))) aNil)) aNil)) [some (.fr (.int 5)), some (.fr (.tuple [.tuple [.int 0, .int 0], .tuple [.int 0, .int 1], .tuple [.int 0, .int 2], .tuple [.int 0, .int 3], .tuple [.int 0, .int 4], .tuple [.int 4, .int 1], .tuple [.int 4, .int 2], .tuple [.int 4, .int 3]])), none, none, none, none, none] = some (.lst lots5) :=
    oIf_eq (b := true) (by kernel_rfl) (fun _ => call_eq (ds := [.int 5, .int 8, .int 1]) (by kernel_rfl) rfl slants5) fun h => nomatch h
  unfold c1__law_bishops_right fSet
  rw [h]
  rfl
theorem bish_5 : F__law_bishops_right [.int 5] = some (.fr (.bool true)) := by
  have h := b5c2
  unfold retT at h
  split at h
  · rename_i t e
    have q : b__law_bishops_right (startE 7 [.int 5]) = some (.rt (.fr (.bool true)) t) := by
      rw [g__law_bishops_right]
      exact (fSeq_nx b5c0).trans ((fSeq_nx b5c1).trans e)
    exact fnOf_rt q
  · cases h
theorem bl0_1 (s : Ob) : nxW [2] c0__law_blocks_right (startB 9 s [.int 1]) = some [some s, some (.fr (.int 1)), none, some (.fr (.int 1)), some (.fr (.int 0)), none, none, none, none] := by kernel_rfl
theorem bl_1_0 (s : Ob) (x : Option Ob) : ret0 c2__law_blocks_right [some s, some (.fr (.int 1)), x, some (.fr (.int 1)), some (.fr (.int 0)), some (.fr (.int 0)), none, none, none] = some s := by kernel_rfl
theorem blocks_1 (s : Ob) (hs : IsS s) : ∃ s', F__law_blocks_right s [.int 1] = some (.fr (.bool true), s') ∧ IsS s' := by
  refine tr_F (b := b__law_blocks_right) (m := 9) ?_
  rw [g__law_blocks_right]
  refine tr_seq [2] (bl0_1 s) fun xs hx => ?_
  match xs, hx with
  | [x], _ =>
    refine tr_setE (we_pick pick_ok hs rfl (by decide) (by decide) fun v s' h0 h1 hs' => ?_)
    have hv : v = 0 := by omega
    rcases hv with rfl
    exact tr_ret hs' (bl_1_0 s' x)
theorem bl0_2 (s : Ob) : nxW [2] c0__law_blocks_right (startB 9 s [.int 2]) = some [some s, some (.fr (.int 2)), none, some (.fr (.int 1)), some (.fr (.int 1)), none, none, none, none] := by kernel_rfl
theorem bl_2_0 (s : Ob) (x : Option Ob) : ret0 c2__law_blocks_right [some s, some (.fr (.int 2)), x, some (.fr (.int 1)), some (.fr (.int 1)), some (.fr (.int 0)), none, none, none] = some s := by kernel_rfl
theorem bl_2_1 (s : Ob) (x : Option Ob) : ret0 c2__law_blocks_right [some s, some (.fr (.int 2)), x, some (.fr (.int 1)), some (.fr (.int 1)), some (.fr (.int 1)), none, none, none] = some s := by kernel_rfl
theorem blocks_2 (s : Ob) (hs : IsS s) : ∃ s', F__law_blocks_right s [.int 2] = some (.fr (.bool true), s') ∧ IsS s' := by
  refine tr_F (b := b__law_blocks_right) (m := 9) ?_
  rw [g__law_blocks_right]
  refine tr_seq [2] (bl0_2 s) fun xs hx => ?_
  match xs, hx with
  | [x], _ =>
    refine tr_setE (we_pick pick_ok hs rfl (by decide) (by decide) fun v s' h0 h1 hs' => ?_)
    have hv : v = 0 ∨ v = 1 := by omega
    rcases hv with rfl | rfl
    · exact tr_ret hs' (bl_2_0 s' x)
    · exact tr_ret hs' (bl_2_1 s' x)
theorem bl0_3 (s : Ob) : nxW [2] c0__law_blocks_right (startB 9 s [.int 3]) = some [some s, some (.fr (.int 3)), none, some (.fr (.int 1)), some (.fr (.int 2)), none, none, none, none] := by kernel_rfl
theorem bl_3_0 (s : Ob) (x : Option Ob) : ret0 c2__law_blocks_right [some s, some (.fr (.int 3)), x, some (.fr (.int 1)), some (.fr (.int 2)), some (.fr (.int 0)), none, none, none] = some s := by kernel_rfl
theorem bl_3_1 (s : Ob) (x : Option Ob) : ret0 c2__law_blocks_right [some s, some (.fr (.int 3)), x, some (.fr (.int 1)), some (.fr (.int 2)), some (.fr (.int 1)), none, none, none] = some s := by kernel_rfl
theorem bl_3_2 (s : Ob) (x : Option Ob) : ret0 c2__law_blocks_right [some s, some (.fr (.int 3)), x, some (.fr (.int 1)), some (.fr (.int 2)), some (.fr (.int 2)), none, none, none] = some s := by kernel_rfl
theorem blocks_3 (s : Ob) (hs : IsS s) : ∃ s', F__law_blocks_right s [.int 3] = some (.fr (.bool true), s') ∧ IsS s' := by
  refine tr_F (b := b__law_blocks_right) (m := 9) ?_
  rw [g__law_blocks_right]
  refine tr_seq [2] (bl0_3 s) fun xs hx => ?_
  match xs, hx with
  | [x], _ =>
    refine tr_setE (we_pick pick_ok hs rfl (by decide) (by decide) fun v s' h0 h1 hs' => ?_)
    have hv : v = 0 ∨ v = 1 ∨ v = 2 := by omega
    rcases hv with rfl | rfl | rfl
    · exact tr_ret hs' (bl_3_0 s' x)
    · exact tr_ret hs' (bl_3_1 s' x)
    · exact tr_ret hs' (bl_3_2 s' x)
theorem bl0_4 (s : Ob) : nxW [2] c0__law_blocks_right (startB 9 s [.int 4]) = some [some s, some (.fr (.int 4)), none, some (.fr (.int 2)), some (.fr (.int 2)), none, none, none, none] := by kernel_rfl
theorem bl_4_0 (s : Ob) (x : Option Ob) : ret0 c2__law_blocks_right [some s, some (.fr (.int 4)), x, some (.fr (.int 2)), some (.fr (.int 2)), some (.fr (.int 0)), none, none, none] = some s := by kernel_rfl
theorem bl_4_1 (s : Ob) (x : Option Ob) : ret0 c2__law_blocks_right [some s, some (.fr (.int 4)), x, some (.fr (.int 2)), some (.fr (.int 2)), some (.fr (.int 1)), none, none, none] = some s := by kernel_rfl
theorem bl_4_2 (s : Ob) (x : Option Ob) : ret0 c2__law_blocks_right [some s, some (.fr (.int 4)), x, some (.fr (.int 2)), some (.fr (.int 2)), some (.fr (.int 2)), none, none, none] = some s := by kernel_rfl
theorem bl_4_3 (s : Ob) (x : Option Ob) : ret0 c2__law_blocks_right [some s, some (.fr (.int 4)), x, some (.fr (.int 2)), some (.fr (.int 2)), some (.fr (.int 3)), none, none, none] = some s := by kernel_rfl
theorem blocks_4 (s : Ob) (hs : IsS s) : ∃ s', F__law_blocks_right s [.int 4] = some (.fr (.bool true), s') ∧ IsS s' := by
  refine tr_F (b := b__law_blocks_right) (m := 9) ?_
  rw [g__law_blocks_right]
  refine tr_seq [2] (bl0_4 s) fun xs hx => ?_
  match xs, hx with
  | [x], _ =>
    refine tr_setE (we_pick pick_ok hs rfl (by decide) (by decide) fun v s' h0 h1 hs' => ?_)
    have hv : v = 0 ∨ v = 1 ∨ v = 2 ∨ v = 3 := by omega
    rcases hv with rfl | rfl | rfl | rfl
    · exact tr_ret hs' (bl_4_0 s' x)
    · exact tr_ret hs' (bl_4_1 s' x)
    · exact tr_ret hs' (bl_4_2 s' x)
    · exact tr_ret hs' (bl_4_3 s' x)
theorem bl0_5 (s : Ob) : nxW [2] c0__law_blocks_right (startB 9 s [.int 5]) = some [some s, some (.fr (.int 5)), none, some (.fr (.int 3)), some (.fr (.int 2)), none, none, none, none] := by kernel_rfl
theorem bl_5_0 (s : Ob) (x : Option Ob) : ret0 c2__law_blocks_right [some s, some (.fr (.int 5)), x, some (.fr (.int 3)), some (.fr (.int 2)), some (.fr (.int 0)), none, none, none] = some s := by kernel_rfl
theorem bl_5_1 (s : Ob) (x : Option Ob) : ret0 c2__law_blocks_right [some s, some (.fr (.int 5)), x, some (.fr (.int 3)), some (.fr (.int 2)), some (.fr (.int 1)), none, none, none] = some s := by kernel_rfl
theorem bl_5_2 (s : Ob) (x : Option Ob) : ret0 c2__law_blocks_right [some s, some (.fr (.int 5)), x, some (.fr (.int 3)), some (.fr (.int 2)), some (.fr (.int 2)), none, none, none] = some s := by kernel_rfl
theorem bl_5_3 (s : Ob) (x : Option Ob) : ret0 c2__law_blocks_right [some s, some (.fr (.int 5)), x, some (.fr (.int 3)), some (.fr (.int 2)), some (.fr (.int 3)), none, none, none] = some s := by kernel_rfl
theorem bl_5_4 (s : Ob) (x : Option Ob) : ret0 c2__law_blocks_right [some s, some (.fr (.int 5)), x, some (.fr (.int 3)), some (.fr (.int 2)), some (.fr (.int 4)), none, none, none] = some s := by kernel_rfl
theorem blocks_5 (s : Ob) (hs : IsS s) : ∃ s', F__law_blocks_right s [.int 5] = some (.fr (.bool true), s') ∧ IsS s' := by
  refine tr_F (b := b__law_blocks_right) (m := 9) ?_
  rw [g__law_blocks_right]
  refine tr_seq [2] (bl0_5 s) fun xs hx => ?_
  match xs, hx with
  | [x], _ =>
    refine tr_setE (we_pick pick_ok hs rfl (by decide) (by decide) fun v s' h0 h1 hs' => ?_)
    have hv : v = 0 ∨ v = 1 ∨ v = 2 ∨ v = 3 ∨ v = 4 := by omega
    rcases hv with rfl | rfl | rfl | rfl | rfl
    · exact tr_ret hs' (bl_5_0 s' x)
    · exact tr_ret hs' (bl_5_1 s' x)
    · exact tr_ret hs' (bl_5_2 s' x)
    · exact tr_ret hs' (bl_5_3 s' x)
    · exact tr_ret hs' (bl_5_4 s' x)
theorem bl0_6 (s : Ob) : nxW [2] c0__law_blocks_right (startB 9 s [.int 6]) = some [some s, some (.fr (.int 6)), none, some (.fr (.int 3)), some (.fr (.int 3)), none, none, none, none] := by kernel_rfl
theorem bl_6_0 (s : Ob) (x : Option Ob) : ret0 c2__law_blocks_right [some s, some (.fr (.int 6)), x, some (.fr (.int 3)), some (.fr (.int 3)), some (.fr (.int 0)), none, none, none] = some s := by kernel_rfl
theorem bl_6_1 (s : Ob) (x : Option Ob) : ret0 c2__law_blocks_right [some s, some (.fr (.int 6)), x, some (.fr (.int 3)), some (.fr (.int 3)), some (.fr (.int 1)), none, none, none] = some s := by kernel_rfl
theorem bl_6_2 (s : Ob) (x : Option Ob) : ret0 c2__law_blocks_right [some s, some (.fr (.int 6)), x, some (.fr (.int 3)), some (.fr (.int 3)), some (.fr (.int 2)), none, none, none] = some s := by kernel_rfl
theorem bl_6_3 (s : Ob) (x : Option Ob) : ret0 c2__law_blocks_right [some s, some (.fr (.int 6)), x, some (.fr (.int 3)), some (.fr (.int 3)), some (.fr (.int 3)), none, none, none] = some s := by kernel_rfl
theorem bl_6_4 (s : Ob) (x : Option Ob) : ret0 c2__law_blocks_right [some s, some (.fr (.int 6)), x, some (.fr (.int 3)), some (.fr (.int 3)), some (.fr (.int 4)), none, none, none] = some s := by kernel_rfl
theorem bl_6_5 (s : Ob) (x : Option Ob) : ret0 c2__law_blocks_right [some s, some (.fr (.int 6)), x, some (.fr (.int 3)), some (.fr (.int 3)), some (.fr (.int 5)), none, none, none] = some s := by kernel_rfl
theorem blocks_6 (s : Ob) (hs : IsS s) : ∃ s', F__law_blocks_right s [.int 6] = some (.fr (.bool true), s') ∧ IsS s' := by
  refine tr_F (b := b__law_blocks_right) (m := 9) ?_
  rw [g__law_blocks_right]
  refine tr_seq [2] (bl0_6 s) fun xs hx => ?_
  match xs, hx with
  | [x], _ =>
    refine tr_setE (we_pick pick_ok hs rfl (by decide) (by decide) fun v s' h0 h1 hs' => ?_)
    have hv : v = 0 ∨ v = 1 ∨ v = 2 ∨ v = 3 ∨ v = 4 ∨ v = 5 := by omega
    rcases hv with rfl | rfl | rfl | rfl | rfl | rfl
    · exact tr_ret hs' (bl_6_0 s' x)
    · exact tr_ret hs' (bl_6_1 s' x)
    · exact tr_ret hs' (bl_6_2 s' x)
    · exact tr_ret hs' (bl_6_3 s' x)
    · exact tr_ret hs' (bl_6_4 s' x)
    · exact tr_ret hs' (bl_6_5 s' x)
theorem bl0_7 (s : Ob) : nxW [2] c0__law_blocks_right (startB 9 s [.int 7]) = some [some s, some (.fr (.int 7)), none, some (.fr (.int 3)), some (.fr (.int 4)), none, none, none, none] := by kernel_rfl
theorem bl_7_0 (s : Ob) (x : Option Ob) : ret0 c2__law_blocks_right [some s, some (.fr (.int 7)), x, some (.fr (.int 3)), some (.fr (.int 4)), some (.fr (.int 0)), none, none, none] = some s := by kernel_rfl
theorem bl_7_1 (s : Ob) (x : Option Ob) : ret0 c2__law_blocks_right [some s, some (.fr (.int 7)), x, some (.fr (.int 3)), some (.fr (.int 4)), some (.fr (.int 1)), none, none, none] = some s := by kernel_rfl
theorem bl_7_2 (s : Ob) (x : Option Ob) : ret0 c2__law_blocks_right [some s, some (.fr (.int 7)), x, some (.fr (.int 3)), some (.fr (.int 4)), some (.fr (.int 2)), none, none, none] = some s := by kernel_rfl
theorem bl_7_3 (s : Ob) (x : Option Ob) : ret0 c2__law_blocks_right [some s, some (.fr (.int 7)), x, some (.fr (.int 3)), some (.fr (.int 4)), some (.fr (.int 3)), none, none, none] = some s := by kernel_rfl
theorem bl_7_4 (s : Ob) (x : Option Ob) : ret0 c2__law_blocks_right [some s, some (.fr (.int 7)), x, some (.fr (.int 3)), some (.fr (.int 4)), some (.fr (.int 4)), none, none, none] = some s := by kernel_rfl
theorem bl_7_5 (s : Ob) (x : Option Ob) : ret0 c2__law_blocks_right [some s, some (.fr (.int 7)), x, some (.fr (.int 3)), some (.fr (.int 4)), some (.fr (.int 5)), none, none, none] = some s := by kernel_rfl
theorem bl_7_6 (s : Ob) (x : Option Ob) : ret0 c2__law_blocks_right [some s, some (.fr (.int 7)), x, some (.fr (.int 3)), some (.fr (.int 4)), some (.fr (.int 6)), none, none, none] = some s := by kernel_rfl
theorem blocks_7 (s : Ob) (hs : IsS s) : ∃ s', F__law_blocks_right s [.int 7] = some (.fr (.bool true), s') ∧ IsS s' := by
  refine tr_F (b := b__law_blocks_right) (m := 9) ?_
  rw [g__law_blocks_right]
  refine tr_seq [2] (bl0_7 s) fun xs hx => ?_
  match xs, hx with
  | [x], _ =>
    refine tr_setE (we_pick pick_ok hs rfl (by decide) (by decide) fun v s' h0 h1 hs' => ?_)
    have hv : v = 0 ∨ v = 1 ∨ v = 2 ∨ v = 3 ∨ v = 4 ∨ v = 5 ∨ v = 6 := by omega
    rcases hv with rfl | rfl | rfl | rfl | rfl | rfl | rfl
    · exact tr_ret hs' (bl_7_0 s' x)
    · exact tr_ret hs' (bl_7_1 s' x)
    · exact tr_ret hs' (bl_7_2 s' x)
    · exact tr_ret hs' (bl_7_3 s' x)
    · exact tr_ret hs' (bl_7_4 s' x)
    · exact tr_ret hs' (bl_7_5 s' x)
    · exact tr_ret hs' (bl_7_6 s' x)
theorem bl0_8 (s : Ob) : nxW [2] c0__law_blocks_right (startB 9 s [.int 8]) = some [some s, some (.fr (.int 8)), none, some (.fr (.int 4)), some (.fr (.int 4)), none, none, none, none] := by kernel_rfl
theorem bl_8_0 (s : Ob) (x : Option Ob) : ret0 c2__law_blocks_right [some s, some (.fr (.int 8)), x, some (.fr (.int 4)), some (.fr (.int 4)), some (.fr (.int 0)), none, none, none] = some s := by kernel_rfl
theorem bl_8_1 (s : Ob) (x : Option Ob) : ret0 c2__law_blocks_right [some s, some (.fr (.int 8)), x, some (.fr (.int 4)), some (.fr (.int 4)), some (.fr (.int 1)), none, none, none] = some s := by kernel_rfl
theorem bl_8_2 (s : Ob) (x : Option Ob) : ret0 c2__law_blocks_right [some s, some (.fr (.int 8)), x, some (.fr (.int 4)), some (.fr (.int 4)), some (.fr (.int 2)), none, none, none] = some s := by kernel_rfl
theorem bl_8_3 (s : Ob) (x : Option Ob) : ret0 c2__law_blocks_right [some s, some (.fr (.int 8)), x, some (.fr (.int 4)), some (.fr (.int 4)), some (.fr (.int 3)), none, none, none] = some s := by kernel_rfl
theorem bl_8_4 (s : Ob) (x : Option Ob) : ret0 c2__law_blocks_right [some s, some (.fr (.int 8)), x, some (.fr (.int 4)), some (.fr (.int 4)), some (.fr (.int 4)), none, none, none] = some s := by kernel_rfl
theorem bl_8_5 (s : Ob) (x : Option Ob) : ret0 c2__law_blocks_right [some s, some (.fr (.int 8)), x, some (.fr (.int 4)), some (.fr (.int 4)), some (.fr (.int 5)), none, none, none] = some s := by kernel_rfl
theorem bl_8_6 (s : Ob) (x : Option Ob) : ret0 c2__law_blocks_right [some s, some (.fr (.int 8)), x, some (.fr (.int 4)), some (.fr (.int 4)), some (.fr (.int 6)), none, none, none] = some s := by kernel_rfl
theorem bl_8_7 (s : Ob) (x : Option Ob) : ret0 c2__law_blocks_right [some s, some (.fr (.int 8)), x, some (.fr (.int 4)), some (.fr (.int 4)), some (.fr (.int 7)), none, none, none] = some s := by kernel_rfl
theorem blocks_8 (s : Ob) (hs : IsS s) : ∃ s', F__law_blocks_right s [.int 8] = some (.fr (.bool true), s') ∧ IsS s' := by
  refine tr_F (b := b__law_blocks_right) (m := 9) ?_
  rw [g__law_blocks_right]
  refine tr_seq [2] (bl0_8 s) fun xs hx => ?_
  match xs, hx with
  | [x], _ =>
    refine tr_setE (we_pick pick_ok hs rfl (by decide) (by decide) fun v s' h0 h1 hs' => ?_)
    have hv : v = 0 ∨ v = 1 ∨ v = 2 ∨ v = 3 ∨ v = 4 ∨ v = 5 ∨ v = 6 ∨ v = 7 := by omega
    rcases hv with rfl | rfl | rfl | rfl | rfl | rfl | rfl | rfl
    · exact tr_ret hs' (bl_8_0 s' x)
    · exact tr_ret hs' (bl_8_1 s' x)
    · exact tr_ret hs' (bl_8_2 s' x)
    · exact tr_ret hs' (bl_8_3 s' x)
    · exact tr_ret hs' (bl_8_4 s' x)
    · exact tr_ret hs' (bl_8_5 s' x)
    · exact tr_ret hs' (bl_8_6 s' x)
    · exact tr_ret hs' (bl_8_7 s' x)
theorem qu1_4 (s : Ob) : nxW [2] c1__law_queens_right [some s, some (.fr (.int 4)), none, none, none, none, none, none, none] = some [some s, some (.fr (.int 4)), none, none, none, none, none, none, none] := by kernel_rfl
theorem qu1_5 (s : Ob) : nxW [2] c1__law_queens_right [some s, some (.fr (.int 5)), none, none, none, none, none, none, none] = some [some s, some (.fr (.int 5)), none, none, none, none, none, none, none] := by kernel_rfl
theorem qu1_6 (s : Ob) : nxW [2] c1__law_queens_right [some s, some (.fr (.int 6)), none, none, none, none, none, none, none] = some [some s, some (.fr (.int 6)), none, none, none, none, none, none, none] := by kernel_rfl
theorem qu1_7 (s : Ob) : nxW [2] c1__law_queens_right [some s, some (.fr (.int 7)), none, none, none, none, none, none, none] = some [some s, some (.fr (.int 7)), none, none, none, none, none, none, none] := by kernel_rfl
theorem qu1_8 (s : Ob) : nxW [2] c1__law_queens_right [some s, some (.fr (.int 8)), none, none, none, none, none, none, none] = some [some s, some (.fr (.int 8)), none, none, none, none, none, none, none] := by kernel_rfl
theorem qu3_1 (s : Ob) (x y : Option Ob) : ret0 c3__law_queens_right [some s, x, y, some (.fr (.int 1)), none, none, none, none, none] = some s := by kernel_rfl
theorem qu3_2 (s : Ob) (x y : Option Ob) : ret0 c3__law_queens_right [some s, x, y, some (.fr (.int 2)), none, none, none, none, none] = some s := by kernel_rfl
theorem qu3_3 (s : Ob) (x y : Option Ob) : ret0 c3__law_queens_right [some s, x, y, some (.fr (.int 3)), none, none, none, none, none] = some s := by kernel_rfl
theorem qu3_4 (s : Ob) (x y : Option Ob) : ret0 c3__law_queens_right [some s, x, y, some (.fr (.int 4)), none, none, none, none, none] = some s := by kernel_rfl
theorem qu3_5 (s : Ob) (x y : Option Ob) : ret0 c3__law_queens_right [some s, x, y, some (.fr (.int 5)), none, none, none, none, none] = some s := by kernel_rfl
theorem qu3_6 (s : Ob) (x y : Option Ob) : ret0 c3__law_queens_right [some s, x, y, some (.fr (.int 6)), none, none, none, none, none] = some s := by kernel_rfl
theorem queens_end (s : Ob) (hs : IsS s) (x y : Option Ob) : Tr (fSeq c2__law_queens_right c3__law_queens_right) [some s, x, y, none, none, none, none, none, none] := by
  refine tr_setE (we_add (we_pick pick_ok hs rfl (by decide) (by decide) fun v s' h0 h1 hs' => ⟨v, rfl, ?_⟩))
  have hv : v = 0 ∨ v = 1 ∨ v = 2 ∨ v = 3 ∨ v = 4 ∨ v = 5 := by omega
  rcases hv with rfl | rfl | rfl | rfl | rfl | rfl
  · exact tr_ret hs' (qu3_1 s' x y)
  · exact tr_ret hs' (qu3_2 s' x y)
  · exact tr_ret hs' (qu3_3 s' x y)
  · exact tr_ret hs' (qu3_4 s' x y)
  · exact tr_ret hs' (qu3_5 s' x y)
  · exact tr_ret hs' (qu3_6 s' x y)
theorem queens_ok (s : Ob) (hs : IsS s) : ∃ s', F__law_queens_right s [] = some (.fr (.bool true), s') ∧ IsS s' := by
  refine tr_F (b := b__law_queens_right) (m := 9) ?_
  rw [g__law_queens_right]
  refine tr_setE (we_add (we_pick pick_ok hs rfl (by decide) (by decide) fun v s' h0 h1 hs' => ⟨v, rfl, ?_⟩))
  have hv : v = 0 ∨ v = 1 ∨ v = 2 ∨ v = 3 ∨ v = 4 := by omega
  rcases hv with rfl | rfl | rfl | rfl | rfl
  · refine tr_seq [2] (qu1_4 s') fun xs hx => ?_
    match xs, hx with
    | [y], _ => exact queens_end s' hs' _ y
  · refine tr_seq [2] (qu1_5 s') fun xs hx => ?_
    match xs, hx with
    | [y], _ => exact queens_end s' hs' _ y
  · refine tr_seq [2] (qu1_6 s') fun xs hx => ?_
    match xs, hx with
    | [y], _ => exact queens_end s' hs' _ y
  · refine tr_seq [2] (qu1_7 s') fun xs hx => ?_
    match xs, hx with
    | [y], _ => exact queens_end s' hs' _ y
  · refine tr_seq [2] (qu1_8 s') fun xs hx => ?_
    match xs, hx with
    | [y], _ => exact queens_end s' hs' _ y
theorem kn1_1_5 (s : Ob) (x : Option Ob) : nxW [2, 3, 4, 5, 6] c1__law_knights_right [some s, x, some (.fr (.int 1)), some (.fr (.int 5)), none, none, none, none, none, none, none, none, none] = some [some s, x, none, none, none, none, none, none, none, none, none, none, none] := by kernel_rfl
theorem kn1_1_8 (s : Ob) (x : Option Ob) : nxW [2, 3, 4, 5, 6] c1__law_knights_right [some s, x, some (.fr (.int 1)), some (.fr (.int 8)), none, none, none, none, none, none, none, none, none] = some [some s, x, none, none, none, none, none, none, none, none, none, none, none] := by kernel_rfl
theorem kn1_2_2 (s : Ob) (x : Option Ob) : nxW [2, 3, 4, 5, 6] c1__law_knights_right [some s, x, some (.fr (.int 2)), some (.fr (.int 2)), none, none, none, none, none, none, none, none, none] = some [some s, x, none, none, none, none, none, none, none, none, none, none, none] := by kernel_rfl
theorem kn1_2_3 (s : Ob) (x : Option Ob) : nxW [2, 3, 4, 5, 6] c1__law_knights_right [some s, x, some (.fr (.int 2)), some (.fr (.int 3)), none, none, none, none, none, none, none, none, none] = some [some s, x, none, none, none, none, none, none, none, none, none, none, none] := by kernel_rfl
theorem kn1_2_4 (s : Ob) (x : Option Ob) : nxW [2, 3, 4, 5, 6] c1__law_knights_right [some s, x, some (.fr (.int 2)), some (.fr (.int 4)), none, none, none, none, none, none, none, none, none] = some [some s, x, none, none, none, none, none, none, none, none, none, none, none] := by kernel_rfl
theorem kn1_2_5 (s : Ob) (x : Option Ob) : nxW [2, 3, 4, 5, 6] c1__law_knights_right [some s, x, some (.fr (.int 2)), some (.fr (.int 5)), none, none, none, none, none, none, none, none, none] = some [some s, x, none, none, none, none, none, none, none, none, none, none, none] := by kernel_rfl
theorem kn1_2_6 (s : Ob) (x : Option Ob) : nxW [2, 3, 4, 5, 6] c1__law_knights_right [some s, x, some (.fr (.int 2)), some (.fr (.int 6)), none, none, none, none, none, none, none, none, none] = some [some s, x, none, none, none, none, none, none, none, none, none, none, none] := by kernel_rfl
theorem kn1_3_3 (s : Ob) (x : Option Ob) : nxW [2, 3, 4, 5, 6] c1__law_knights_right [some s, x, some (.fr (.int 3)), some (.fr (.int 3)), none, none, none, none, none, none, none, none, none] = some [some s, x, none, none, none, none, none, none, none, none, none, none, none] := by kernel_rfl
theorem kn1_3_4 (s : Ob) (x : Option Ob) : nxW [2, 3, 4, 5, 6] c1__law_knights_right [some s, x, some (.fr (.int 3)), some (.fr (.int 4)), none, none, none, none, none, none, none, none, none] = some [some s, x, none, none, none, none, none, none, none, none, none, none, none] := by kernel_rfl
theorem kn1_4_3 (s : Ob) (x : Option Ob) : nxW [2, 3, 4, 5, 6] c1__law_knights_right [some s, x, some (.fr (.int 4)), some (.fr (.int 3)), none, none, none, none, none, none, none, none, none] = some [some s, x, none, none, none, none, none, none, none, none, none, none, none] := by kernel_rfl
theorem kn3_1_0 (s : Ob) (a b c d e : Option Ob) : ret0 c3__law_knights_right [some s, some (.fr (.int 1)), a, b, c, d, e, some (.fr (.int 0)), none, none, none, none, none] = some s := by kernel_rfl
theorem kn3_1_1 (s : Ob) (a b c d e : Option Ob) : ret0 c3__law_knights_right [some s, some (.fr (.int 1)), a, b, c, d, e, some (.fr (.int 1)), none, none, none, none, none] = some s := by kernel_rfl
theorem kn3_2_0 (s : Ob) (a b c d e : Option Ob) : ret0 c3__law_knights_right [some s, some (.fr (.int 2)), a, b, c, d, e, some (.fr (.int 0)), none, none, none, none, none] = some s := by kernel_rfl
theorem kn3_2_1 (s : Ob) (a b c d e : Option Ob) : ret0 c3__law_knights_right [some s, some (.fr (.int 2)), a, b, c, d, e, some (.fr (.int 1)), none, none, none, none, none] = some s := by kernel_rfl
theorem kn3_3_0 (s : Ob) (a b c d e : Option Ob) : ret0 c3__law_knights_right [some s, some (.fr (.int 3)), a, b, c, d, e, some (.fr (.int 0)), none, none, none, none, none] = some s := by kernel_rfl
theorem kn3_3_1 (s : Ob) (a b c d e : Option Ob) : ret0 c3__law_knights_right [some s, some (.fr (.int 3)), a, b, c, d, e, some (.fr (.int 1)), none, none, none, none, none] = some s := by kernel_rfl
theorem kn3_4_0 (s : Ob) (a b c d e : Option Ob) : ret0 c3__law_knights_right [some s, some (.fr (.int 4)), a, b, c, d, e, some (.fr (.int 0)), none, none, none, none, none] = some s := by kernel_rfl
theorem kn3_4_1 (s : Ob) (a b c d e : Option Ob) : ret0 c3__law_knights_right [some s, some (.fr (.int 4)), a, b, c, d, e, some (.fr (.int 1)), none, none, none, none, none] = some s := by kernel_rfl
theorem kn3_5_0 (s : Ob) (a b c d e : Option Ob) : ret0 c3__law_knights_right [some s, some (.fr (.int 5)), a, b, c, d, e, some (.fr (.int 0)), none, none, none, none, none] = some s := by kernel_rfl
theorem kn3_5_1 (s : Ob) (a b c d e : Option Ob) : ret0 c3__law_knights_right [some s, some (.fr (.int 5)), a, b, c, d, e, some (.fr (.int 1)), none, none, none, none, none] = some s := by kernel_rfl
theorem kn3_6_0 (s : Ob) (a b c d e : Option Ob) : ret0 c3__law_knights_right [some s, some (.fr (.int 6)), a, b, c, d, e, some (.fr (.int 0)), none, none, none, none, none] = some s := by kernel_rfl
theorem kn3_6_1 (s : Ob) (a b c d e : Option Ob) : ret0 c3__law_knights_right [some s, some (.fr (.int 6)), a, b, c, d, e, some (.fr (.int 1)), none, none, none, none, none] = some s := by kernel_rfl
theorem kn3_7_0 (s : Ob) (a b c d e : Option Ob) : ret0 c3__law_knights_right [some s, some (.fr (.int 7)), a, b, c, d, e, some (.fr (.int 0)), none, none, none, none, none] = some s := by kernel_rfl
theorem kn3_7_1 (s : Ob) (a b c d e : Option Ob) : ret0 c3__law_knights_right [some s, some (.fr (.int 7)), a, b, c, d, e, some (.fr (.int 1)), none, none, none, none, none] = some s := by kernel_rfl
theorem kn3_8_0 (s : Ob) (a b c d e : Option Ob) : ret0 c3__law_knights_right [some s, some (.fr (.int 8)), a, b, c, d, e, some (.fr (.int 0)), none, none, none, none, none] = some s := by kernel_rfl
theorem kn3_8_1 (s : Ob) (a b c d e : Option Ob) : ret0 c3__law_knights_right [some s, some (.fr (.int 8)), a, b, c, d, e, some (.fr (.int 1)), none, none, none, none, none] = some s := by kernel_rfl
theorem we_of {s : Ob} {t : DL.Env} {fl : FDE} {l : List PyData} {Q : Ob → DL.Env → Prop} (hs : IsS s) (ha : fl (some s :: t) = some ([.list l], some s :: t)) (h1 : 1 ≤ l.length) (h2 : l.length < 1000) (h : ∀ d ∈ l, ∀ s', IsS s' → Q (.fr d) (some s' :: t)) : WE (eCallB 0 1 F__law_of fl) (some s :: t) Q := by
  obtain ⟨o, ρ', e, q⟩ : WE (e2O ixO (eP (frV 1)) (eCallB 0 1 F__law_pick (eaCons (eP (oL (g1 lenA) (lCons (rdV 1) lNil))) eaNil))) [some s, some (.fr (.list l))] (fun o ρ' => ∃ d ∈ l, ∃ s', IsS s' ∧ o = .fr d ∧ ρ' = [some s', some (.fr (.list l))]) := by
    refine we_2 (we_p (o := .fr (.list l)) rfl ⟨.list l, rfl, ?_⟩)
    refine we_pick pick_ok (many := l.length) hs rfl (by omega) (by omega) fun v s' h0 h1 hs' => ⟨.int v, rfl, ?_⟩
    obtain ⟨n, rfl⟩ : ∃ n : Nat, v = Int.ofNat n := ⟨v.toNat, (Int.toNat_of_nonneg h0).symm⟩
    have hn : n < l.length := Int.ofNat_lt.mp h1
    refine ⟨.fr l[n], ?_, l[n], List.getElem_mem hn, s', hs', rfl, rfl⟩
    show (l[n]?).bind _ = _
    rw [List.getElem?_eq_getElem hn]
    rfl
  obtain ⟨d, hd, s', hs', rfl, rfl⟩ := q
  refine we_callB ⟨s, rfl⟩ ⟨[.list l], _, ha, rfl, s, .fr d, s', rfl, ?_, h d hd s' hs'⟩
  show ((fRetE (e2O ixO (eP (frV 1)) (eCallB 0 1 F__law_pick (eaCons (eP (oL (g1 lenA) (lCons (rdV 1) lNil))) eaNil))) [some s, some (.fr (.list l))]).bind _) = _
  unfold fRetE
  rw [e]
  rfl
theorem knights_end_1 (s : Ob) (hs : IsS s) (a b c d e : Option Ob) : Tr (fSeq c2__law_knights_right c3__law_knights_right) [some s, some (.fr (.int 1)), a, b, c, d, e, none, none, none, none, none, none] := by
  refine tr_setE (we_pick pick_ok hs rfl (by decide) (by decide) fun v s' h0 h1 hs' => ?_)
  have hv : v = 0 ∨ v = 1 := by omega
  rcases hv with rfl | rfl
  · exact tr_ret hs' (kn3_1_0 s' a b c d e)
  · exact tr_ret hs' (kn3_1_1 s' a b c d e)
theorem knights_end_2 (s : Ob) (hs : IsS s) (a b c d e : Option Ob) : Tr (fSeq c2__law_knights_right c3__law_knights_right) [some s, some (.fr (.int 2)), a, b, c, d, e, none, none, none, none, none, none] := by
  refine tr_setE (we_pick pick_ok hs rfl (by decide) (by decide) fun v s' h0 h1 hs' => ?_)
  have hv : v = 0 ∨ v = 1 := by omega
  rcases hv with rfl | rfl
  · exact tr_ret hs' (kn3_2_0 s' a b c d e)
  · exact tr_ret hs' (kn3_2_1 s' a b c d e)
theorem knights_end_3 (s : Ob) (hs : IsS s) (a b c d e : Option Ob) : Tr (fSeq c2__law_knights_right c3__law_knights_right) [some s, some (.fr (.int 3)), a, b, c, d, e, none, none, none, none, none, none] := by
  refine tr_setE (we_pick pick_ok hs rfl (by decide) (by decide) fun v s' h0 h1 hs' => ?_)
  have hv : v = 0 ∨ v = 1 := by omega
  rcases hv with rfl | rfl
  · exact tr_ret hs' (kn3_3_0 s' a b c d e)
  · exact tr_ret hs' (kn3_3_1 s' a b c d e)
theorem knights_end_4 (s : Ob) (hs : IsS s) (a b c d e : Option Ob) : Tr (fSeq c2__law_knights_right c3__law_knights_right) [some s, some (.fr (.int 4)), a, b, c, d, e, none, none, none, none, none, none] := by
  refine tr_setE (we_pick pick_ok hs rfl (by decide) (by decide) fun v s' h0 h1 hs' => ?_)
  have hv : v = 0 ∨ v = 1 := by omega
  rcases hv with rfl | rfl
  · exact tr_ret hs' (kn3_4_0 s' a b c d e)
  · exact tr_ret hs' (kn3_4_1 s' a b c d e)
theorem knights_end_5 (s : Ob) (hs : IsS s) (a b c d e : Option Ob) : Tr (fSeq c2__law_knights_right c3__law_knights_right) [some s, some (.fr (.int 5)), a, b, c, d, e, none, none, none, none, none, none] := by
  refine tr_setE (we_pick pick_ok hs rfl (by decide) (by decide) fun v s' h0 h1 hs' => ?_)
  have hv : v = 0 ∨ v = 1 := by omega
  rcases hv with rfl | rfl
  · exact tr_ret hs' (kn3_5_0 s' a b c d e)
  · exact tr_ret hs' (kn3_5_1 s' a b c d e)
theorem knights_end_6 (s : Ob) (hs : IsS s) (a b c d e : Option Ob) : Tr (fSeq c2__law_knights_right c3__law_knights_right) [some s, some (.fr (.int 6)), a, b, c, d, e, none, none, none, none, none, none] := by
  refine tr_setE (we_pick pick_ok hs rfl (by decide) (by decide) fun v s' h0 h1 hs' => ?_)
  have hv : v = 0 ∨ v = 1 := by omega
  rcases hv with rfl | rfl
  · exact tr_ret hs' (kn3_6_0 s' a b c d e)
  · exact tr_ret hs' (kn3_6_1 s' a b c d e)
theorem knights_end_7 (s : Ob) (hs : IsS s) (a b c d e : Option Ob) : Tr (fSeq c2__law_knights_right c3__law_knights_right) [some s, some (.fr (.int 7)), a, b, c, d, e, none, none, none, none, none, none] := by
  refine tr_setE (we_pick pick_ok hs rfl (by decide) (by decide) fun v s' h0 h1 hs' => ?_)
  have hv : v = 0 ∨ v = 1 := by omega
  rcases hv with rfl | rfl
  · exact tr_ret hs' (kn3_7_0 s' a b c d e)
  · exact tr_ret hs' (kn3_7_1 s' a b c d e)
theorem knights_end_8 (s : Ob) (hs : IsS s) (a b c d e : Option Ob) : Tr (fSeq c2__law_knights_right c3__law_knights_right) [some s, some (.fr (.int 8)), a, b, c, d, e, none, none, none, none, none, none] := by
  refine tr_setE (we_pick pick_ok hs rfl (by decide) (by decide) fun v s' h0 h1 hs' => ?_)
  have hv : v = 0 ∨ v = 1 := by omega
  rcases hv with rfl | rfl
  · exact tr_ret hs' (kn3_8_0 s' a b c d e)
  · exact tr_ret hs' (kn3_8_1 s' a b c d e)
theorem knights_ok (n : Int) (s : Ob) (hs : IsS s) (fin : ∀ (s : Ob) (hs : IsS s) (a b c d e : Option Ob), Tr (fSeq c2__law_knights_right c3__law_knights_right) [some s, some (.fr (.int n)), a, b, c, d, e, none, none, none, none, none, none]) : ∃ s', F__law_knights_right s [.int n] = some (.fr (.bool true), s') ∧ IsS s' := by
  refine tr_F (b := b__law_knights_right) (m := 13) ?_
  rw [g__law_knights_right]
  refine tr_tgE (we_of (l := [((1 : Int), (5 : Int)), ((1 : Int), (8 : Int)), ((2 : Int), (2 : Int)), ((2 : Int), (3 : Int)), ((2 : Int), (4 : Int)), ((2 : Int), (5 : Int)), ((2 : Int), (6 : Int)), ((3 : Int), (3 : Int)), ((3 : Int), (4 : Int)), ((4 : Int), (3 : Int))].map fun p => .tuple [.int p.1, .int p.2]) hs rfl (by decide) (by decide) fun d hd s' hs' => ⟨d, ?_⟩)
  have hv : d = .tuple [.int 1, .int 5] ∨ d = .tuple [.int 1, .int 8] ∨ d = .tuple [.int 2, .int 2] ∨ d = .tuple [.int 2, .int 3] ∨ d = .tuple [.int 2, .int 4] ∨ d = .tuple [.int 2, .int 5] ∨ d = .tuple [.int 2, .int 6] ∨ d = .tuple [.int 3, .int 3] ∨ d = .tuple [.int 3, .int 4] ∨ d = .tuple [.int 4, .int 3] := by simpa using hd
  rcases hv with rfl | rfl | rfl | rfl | rfl | rfl | rfl | rfl | rfl | rfl
  · refine ⟨_, rfl, rfl, tr_seq [2, 3, 4, 5, 6] (kn1_1_5 s' _) fun xs hx => ?_⟩
    match xs, hx with
    | [a, b, c, d, e], _ => exact fin s' hs' a b c d e
  · refine ⟨_, rfl, rfl, tr_seq [2, 3, 4, 5, 6] (kn1_1_8 s' _) fun xs hx => ?_⟩
    match xs, hx with
    | [a, b, c, d, e], _ => exact fin s' hs' a b c d e
  · refine ⟨_, rfl, rfl, tr_seq [2, 3, 4, 5, 6] (kn1_2_2 s' _) fun xs hx => ?_⟩
    match xs, hx with
    | [a, b, c, d, e], _ => exact fin s' hs' a b c d e
  · refine ⟨_, rfl, rfl, tr_seq [2, 3, 4, 5, 6] (kn1_2_3 s' _) fun xs hx => ?_⟩
    match xs, hx with
    | [a, b, c, d, e], _ => exact fin s' hs' a b c d e
  · refine ⟨_, rfl, rfl, tr_seq [2, 3, 4, 5, 6] (kn1_2_4 s' _) fun xs hx => ?_⟩
    match xs, hx with
    | [a, b, c, d, e], _ => exact fin s' hs' a b c d e
  · refine ⟨_, rfl, rfl, tr_seq [2, 3, 4, 5, 6] (kn1_2_5 s' _) fun xs hx => ?_⟩
    match xs, hx with
    | [a, b, c, d, e], _ => exact fin s' hs' a b c d e
  · refine ⟨_, rfl, rfl, tr_seq [2, 3, 4, 5, 6] (kn1_2_6 s' _) fun xs hx => ?_⟩
    match xs, hx with
    | [a, b, c, d, e], _ => exact fin s' hs' a b c d e
  · refine ⟨_, rfl, rfl, tr_seq [2, 3, 4, 5, 6] (kn1_3_3 s' _) fun xs hx => ?_⟩
    match xs, hx with
    | [a, b, c, d, e], _ => exact fin s' hs' a b c d e
  · refine ⟨_, rfl, rfl, tr_seq [2, 3, 4, 5, 6] (kn1_3_4 s' _) fun xs hx => ?_⟩
    match xs, hx with
    | [a, b, c, d, e], _ => exact fin s' hs' a b c d e
  · refine ⟨_, rfl, rfl, tr_seq [2, 3, 4, 5, 6] (kn1_4_3 s' _) fun xs hx => ?_⟩
    match xs, hx with
    | [a, b, c, d, e], _ => exact fin s' hs' a b c d e
theorem law_n (n : Int) (hb : F__law_bishops_right [.int n] = some (.fr (.bool true))) (h4 : F__law_bishops_right [.int 4] = some (.fr (.bool true))) (hk : ∀ s, IsS s → ∃ s', F__law_blocks_right s [.int n] = some (.fr (.bool true), s') ∧ IsS s') (hn : ∀ s, IsS s → ∃ s', F__law_knights_right s [.int n] = some (.fr (.bool true), s') ∧ IsS s')
    (x : Option Ob) (hx : ∃ o, x = some o) (s : Ob) (hs : IsS s) : WS (fSeq c3_law c4_law) [x, some s, some (.fr (.int n))] fun r => ∃ o t, r = .rt (.fr (.bool true)) (some o :: t) := by
  have rest : ∀ s, IsS s → WT (eNot (eBO (eCallB 1 1 F__law_blocks_right (eaCons (eP (frV 2)) eaNil)))) [x, some s, some (.fr (.int n))] fun b ρ' => b = false ∧ ∃ s', IsS s' ∧ ρ' = [x, some s', some (.fr (.int n))] := fun s hs =>
    wt_not (wt_b (we_good1 (ds := [.int n]) rfl rfl (hk s hs) fun s' hs' => ⟨true, rfl, rfl, s', hs', rfl⟩))
  have bish : ∀ s, IsS s → ∀ m, F__law_bishops_right [.int m] = some (.fr (.bool true)) → True := fun _ _ _ _ => trivial
  have test : WT (eOr (eNot (eBO (eCall 1 F__law_bishops_right (eaCons (eIf (eOr (ePB (bO (o2 neO (rdV 2) (kO (.int 5))))) (eBO (e2O eqO (eCallB 1 1 F__law_pick (eaCons (eP (kO (.int 6))) eaNil)) (eP (kO (.int 0)))))) (eP (frV 2)) (eP (kO (.int 4)))) eaNil)))) (eNot (eBO (eCallB 1 1 F__law_blocks_right (eaCons (eP (frV 2)) eaNil))))) [x, some s, some (.fr (.int n))] fun b ρ' => b = false ∧ ∃ s', IsS s' ∧ ρ' = [x, some s', some (.fr (.int n))] := by
    refine wt_or (wt_not (wt_b (we_call (wa_cons (we_if (wt_or (wt_p (b := !(PyData.eqv (.int n) (.int 5))) rfl ?_)))))))
    cases PyData.eqv (.int n) (.int 5) with
    | false =>
      refine L2.iteT (L2.iteT (we_p rfl ⟨.int n, rfl, wa_nil ⟨rfl, _, hb, true, rfl, ?_⟩⟩))
      exact L2.iteF (rest s hs)
    | true =>
      refine L2.iteF (wt_b (we_2 (we_pick1 pick_ok hs rfl (by decide) (by decide) fun v s' h0 h1 hs' => ⟨.int v, rfl, we_p rfl ⟨.int 0, rfl, .fr (.bool (PyData.eqv (.int v) (.int 0))), rfl, PyData.eqv (.int v) (.int 0), rfl, ?_⟩⟩)))
      cases PyData.eqv (.int v) (.int 0) with
      | false => exact L2.iteF (we_p rfl ⟨.int 4, rfl, wa_nil ⟨rfl, _, h4, true, rfl, L2.iteF (rest s' hs')⟩⟩)
      | true => exact L2.iteT (we_p rfl ⟨.int n, rfl, wa_nil ⟨rfl, _, hb, true, rfl, L2.iteF (rest s' hs')⟩⟩)
  obtain ⟨b, ρ', e, rfl, s1, hs1, rfl⟩ := test
  refine ws_nx (ρ1 := [x, some s1, some (.fr (.int n))]) ?_ ?_
  · show fIfE _ (fRet (kO (.bool false))) fNx _ = _
    unfold fIfE
    rw [e]
    rfl
  · obtain ⟨o, rfl⟩ := hx
    refine ws_ret (we_and (we_good1 (ds := []) rfl rfl (queens_ok s1 hs1) fun s2 hs2 => ⟨true, rfl, L2.iteT ?_⟩))
    exact we_good1 (ds := [.int n]) rfl rfl (hn s2 hs2) fun s3 hs3 => ⟨o, _, rfl⟩
theorem law_holds (ns : List Int) (hl : ns.length ≤ 63) : ∃ o', F_law (.scr ns) [] = some (.fr (.bool true), o') := by
  refine law_end (b := b_law) (m := 3) ?_
  rw [g_law]
  obtain ⟨l, a, b, c, e⟩ := source_ok ns hl
  refine ws_set (we_callB ⟨_, rfl⟩ ⟨[], _, rfl, rfl, .scr ns, _, _, rfl, e, ?_⟩)
  refine ws_set (we_2 (we_p (o := .fr (.int 1)) rfl ⟨.int 1, rfl, ?_⟩))
  refine we_pick1 pick_ok (IsS.mk l a b c) rfl (by decide) (by decide) fun v s hv0 hv1 hs => ⟨.int v, rfl, .fr (.int (1 + v)), rfl, ?_⟩
  refine ws_nx (ρ1 := [some (.scr ns), some s, some (.fr (.int (1 + v)))]) rfl ?_
  have hv : v = 0 ∨ v = 1 ∨ v = 2 ∨ v = 3 ∨ v = 4 ∨ v = 5 ∨ v = 6 ∨ v = 7 := by omega
  rcases hv with rfl | rfl | rfl | rfl | rfl | rfl | rfl | rfl
  · exact law_n 1 bish_1 bish_4 blocks_1 (fun s hs => knights_ok 1 s hs knights_end_1) _ ⟨_, rfl⟩ s hs
  · exact law_n 2 bish_2 bish_4 blocks_2 (fun s hs => knights_ok 2 s hs knights_end_2) _ ⟨_, rfl⟩ s hs
  · exact law_n 3 bish_3 bish_4 blocks_3 (fun s hs => knights_ok 3 s hs knights_end_3) _ ⟨_, rfl⟩ s hs
  · exact law_n 4 bish_4 bish_4 blocks_4 (fun s hs => knights_ok 4 s hs knights_end_4) _ ⟨_, rfl⟩ s hs
  · exact law_n 5 bish_5 bish_4 blocks_5 (fun s hs => knights_ok 5 s hs knights_end_5) _ ⟨_, rfl⟩ s hs
  · exact law_n 6 bish_6 bish_4 blocks_6 (fun s hs => knights_ok 6 s hs knights_end_6) _ ⟨_, rfl⟩ s hs
  · exact law_n 7 bish_7 bish_4 blocks_7 (fun s hs => knights_ok 7 s hs knights_end_7) _ ⟨_, rfl⟩ s hs
  · exact law_n 8 bish_8 bish_4 blocks_8 (fun s hs => knights_ok 8 s hs knights_end_8) _ ⟨_, rfl⟩ s hs
end LW

namespace LW
open PySem PySem.Spec PyProof.Rows L2 DL
/-! ## the head -/
def dOf (x : Str) (i : Nat) : He.DefD := ⟨(x, none), x, x, defArgs (top i), defBody (top i), defScope (top i), [], []⟩
def fn : List He.DefD := ([dOf (PySem.Str.ofString "all_squares") 2, dOf (PySem.Str.ofString "how_far") 3, dOf (PySem.Str.ofString "reached_squares") 4, dOf (PySem.Str.ofString "watched_squares") 5, dOf (PySem.Str.ofString "is_watching_board") 6, dOf (PySem.Str.ofString "is_at_peace") 7, dOf (PySem.Str.ofString "peaceful_next") 8, dOf (PySem.Str.ofString "most_at_peace") 9, dOf (PySem.Str.ofString "bishop_number") 11, dOf (PySem.Str.ofString "bishop_peace") 12, dOf (PySem.Str.ofString "told_bishops") 13, dOf (PySem.Str.ofString "told_bishop_peace") 14, dOf (PySem.Str.ofString "bishop_block") 15, dOf (PySem.Str.ofString "sign_bounds") 16, dOf (PySem.Str.ofString "king_peace") 18, dOf (PySem.Str.ofString "places_by") 19, dOf (PySem.Str.ofString "squares_by") 20, dOf (PySem.Str.ofString "told_king_peace") 21, dOf (PySem.Str.ofString "_law_source") 23, dOf (PySem.Str.ofString "_law_pick") 24, dOf (PySem.Str.ofString "_law_of") 25, dOf (PySem.Str.ofString "_law_slants") 26, dOf (PySem.Str.ofString "_law_queens") 27, dOf (PySem.Str.ofString "_law_pauls") 28, dOf (PySem.Str.ofString "_law_bishops_right") 29, dOf (PySem.Str.ofString "_law_squares") 30, dOf (PySem.Str.ofString "_law_blocks_right") 31, dOf (PySem.Str.ofString "_law_queens_right") 32, dOf (PySem.Str.ofString "_law_knights_right") 33, dOf (PySem.Str.ofString "law") 34] : List He.DefD)
def fa : List He.Fa := ([He.Fa.glo (PySem.Str.ofString "all_squares"), He.Fa.glo (PySem.Str.ofString "how_far"), He.Fa.glo (PySem.Str.ofString "reached_squares"), He.Fa.glo (PySem.Str.ofString "watched_squares"), He.Fa.glo (PySem.Str.ofString "is_watching_board"), He.Fa.glo (PySem.Str.ofString "is_at_peace"), He.Fa.glo (PySem.Str.ofString "peaceful_next"), He.Fa.glo (PySem.Str.ofString "most_at_peace"), He.Fa.glo (PySem.Str.ofString "bishop_number"), He.Fa.glo (PySem.Str.ofString "bishop_peace"), He.Fa.glo (PySem.Str.ofString "told_bishops"), He.Fa.glo (PySem.Str.ofString "told_bishop_peace"), He.Fa.glo (PySem.Str.ofString "bishop_block"), He.Fa.glo (PySem.Str.ofString "sign_bounds"), He.Fa.glo (PySem.Str.ofString "king_peace"), He.Fa.glo (PySem.Str.ofString "places_by"), He.Fa.glo (PySem.Str.ofString "squares_by"), He.Fa.glo (PySem.Str.ofString "told_king_peace"), He.Fa.glo (PySem.Str.ofString "_law_source"), He.Fa.glo (PySem.Str.ofString "_law_pick"), He.Fa.glo (PySem.Str.ofString "_law_of"), He.Fa.glo (PySem.Str.ofString "_law_slants"), He.Fa.glo (PySem.Str.ofString "_law_queens"), He.Fa.glo (PySem.Str.ofString "_law_pauls"), He.Fa.glo (PySem.Str.ofString "_law_bishops_right"), He.Fa.glo (PySem.Str.ofString "_law_squares"), He.Fa.glo (PySem.Str.ofString "_law_blocks_right"), He.Fa.glo (PySem.Str.ofString "_law_queens_right"), He.Fa.glo (PySem.Str.ofString "_law_knights_right"), He.Fa.glo (PySem.Str.ofString "law"), He.Fa.glo (PySem.Str.ofString "STEPS"), He.Fa.free (PySem.Str.ofString "abs"), He.Fa.free (PySem.Str.ofString "any"), He.Fa.free (PySem.Str.ofString "dict"), He.Fa.free (PySem.Str.ofString "enumerate"), He.Fa.free (PySem.Str.ofString "int"), He.Fa.free (PySem.Str.ofString "len"), He.Fa.free (PySem.Str.ofString "list"), He.Fa.free (PySem.Str.ofString "max"), He.Fa.free (PySem.Str.ofString "min")] : List He.Fa) ++ ([He.Fa.free (PySem.Str.ofString "range"), He.Fa.free (PySem.Str.ofString "repr"), He.Fa.free (PySem.Str.ofString "sorted"), He.Fa.free (PySem.Str.ofString "tuple")] : List He.Fa)
def loose : List PySem.Str := ([(PySem.Str.ofString "all_squares"), (PySem.Str.ofString "how_far"), (PySem.Str.ofString "reached_squares"), (PySem.Str.ofString "watched_squares"), (PySem.Str.ofString "is_watching_board"), (PySem.Str.ofString "is_at_peace"), (PySem.Str.ofString "peaceful_next"), (PySem.Str.ofString "most_at_peace"), (PySem.Str.ofString "bishop_number"), (PySem.Str.ofString "bishop_peace"), (PySem.Str.ofString "told_bishops"), (PySem.Str.ofString "told_bishop_peace"), (PySem.Str.ofString "bishop_block"), (PySem.Str.ofString "sign_bounds"), (PySem.Str.ofString "king_peace"), (PySem.Str.ofString "places_by"), (PySem.Str.ofString "squares_by"), (PySem.Str.ofString "told_king_peace"), (PySem.Str.ofString "_law_source"), (PySem.Str.ofString "_law_pick"), (PySem.Str.ofString "_law_of"), (PySem.Str.ofString "_law_slants"), (PySem.Str.ofString "_law_queens"), (PySem.Str.ofString "_law_pauls"), (PySem.Str.ofString "_law_bishops_right"), (PySem.Str.ofString "_law_squares"), (PySem.Str.ofString "_law_blocks_right"), (PySem.Str.ofString "_law_queens_right"), (PySem.Str.ofString "_law_knights_right"), (PySem.Str.ofString "STEPS")] : List PySem.Str)
def ts : List He.Tab := [(fun K => He.ga K (PySem.Str.ofString "STEPS"), [(PySem.Str.ofString "rook"), (PySem.Str.ofString "bishop"), (PySem.Str.ofString "queen"), (PySem.Str.ofString "king"), (PySem.Str.ofString "knight")])]
def ex (K : PySem.W.Frag) : Bool := tabsOk (PySem.Str.ofString "STEPS") t_STEPS K
abbrev R : PySem.W.OpenRow := PySem.W.OpenLaw.row PySem.Challenge.rw_placesdefended_k30_whole_pieces_at_peace
abbrev hk : PySem.W.Hook := He.hookX 4 fa fn ts [] ex
def ob (s : PySem.W.SharedT) : He.AlX := He.obsX 4 fa fn ts [] ex (HandSHeadRun.getT s)
theorem ob_eq (s : PySem.W.SharedT) : ob s = hk.obs s.abs := He.obsX_eq (HandSHeadRun.getT_eq s)
set_option maxHeartbeats 0 in
theorem run (w : World) : HandSHeadRun.RunEq R (PySem.W.view R.prog [34]) hk ob 4000 loose w := by
  refine PySem.W.byRow2 "special-get-raises" (P := fun w => HandSHeadRun.RunEq R (PySem.W.view R.prog [34]) hk ob 4000 loose w) (fun w => ?_) (fun w => ?_) w <;> (intro os; kernel_rfl)
theorem hd_of {w : World} {K : PySem.W.Frag} {h : Heap} {mg : Str → Option Value} (Kh : K.In h) (G : h.Ns mainGlobals mg) (c : He.SaysX fa fn ts [] ex w h K) : Hd w K mg where
  fr_abs := He.free_ok Kh G (c.t.d.fact 31 (f := .free (PySem.Str.ofString "abs")) rfl)
  fr_any := He.free_ok Kh G (c.t.d.fact 32 (f := .free (PySem.Str.ofString "any")) rfl)
  fr_dict := He.free_ok Kh G (c.t.d.fact 33 (f := .free (PySem.Str.ofString "dict")) rfl)
  fr_enumerate := He.free_ok Kh G (c.t.d.fact 34 (f := .free (PySem.Str.ofString "enumerate")) rfl)
  fr_int := He.free_ok Kh G (c.t.d.fact 35 (f := .free (PySem.Str.ofString "int")) rfl)
  fr_len := He.free_ok Kh G (c.t.d.fact 36 (f := .free (PySem.Str.ofString "len")) rfl)
  fr_list := He.free_ok Kh G (c.t.d.fact 37 (f := .free (PySem.Str.ofString "list")) rfl)
  fr_max := He.free_ok Kh G (c.t.d.fact 38 (f := .free (PySem.Str.ofString "max")) rfl)
  fr_min := He.free_ok Kh G (c.t.d.fact 39 (f := .free (PySem.Str.ofString "min")) rfl)
  fr_range := He.free_ok Kh G (c.t.d.fact 40 (f := .free (PySem.Str.ofString "range")) rfl)
  fr_repr := He.free_ok Kh G (c.t.d.fact 41 (f := .free (PySem.Str.ofString "repr")) rfl)
  fr_sorted := He.free_ok Kh G (c.t.d.fact 42 (f := .free (PySem.Str.ofString "sorted")) rfl)
  fr_tuple := He.free_ok Kh G (c.t.d.fact 43 (f := .free (PySem.Str.ofString "tuple")) rfl)
  gl_STEPS := He.glo_ok Kh G (c.t.d.fact 30 (f := .glo (PySem.Str.ofString "STEPS")) rfl)
  tab_STEPS := tabsOk_ok c.more (c.t.tab 0 rfl)
  gl_all_squares := He.glo_ok Kh G (c.t.d.fact 0 (f := .glo (PySem.Str.ofString "all_squares")) rfl)
  fd_all_squares := c.t.d.def_ 0 (d := dOf (PySem.Str.ofString "all_squares") 2) rfl
  gl_how_far := He.glo_ok Kh G (c.t.d.fact 1 (f := .glo (PySem.Str.ofString "how_far")) rfl)
  fd_how_far := c.t.d.def_ 1 (d := dOf (PySem.Str.ofString "how_far") 3) rfl
  gl_reached_squares := He.glo_ok Kh G (c.t.d.fact 2 (f := .glo (PySem.Str.ofString "reached_squares")) rfl)
  fd_reached_squares := c.t.d.def_ 2 (d := dOf (PySem.Str.ofString "reached_squares") 4) rfl
  gl_watched_squares := He.glo_ok Kh G (c.t.d.fact 3 (f := .glo (PySem.Str.ofString "watched_squares")) rfl)
  fd_watched_squares := c.t.d.def_ 3 (d := dOf (PySem.Str.ofString "watched_squares") 5) rfl
  gl_is_watching_board := He.glo_ok Kh G (c.t.d.fact 4 (f := .glo (PySem.Str.ofString "is_watching_board")) rfl)
  fd_is_watching_board := c.t.d.def_ 4 (d := dOf (PySem.Str.ofString "is_watching_board") 6) rfl
  gl_is_at_peace := He.glo_ok Kh G (c.t.d.fact 5 (f := .glo (PySem.Str.ofString "is_at_peace")) rfl)
  fd_is_at_peace := c.t.d.def_ 5 (d := dOf (PySem.Str.ofString "is_at_peace") 7) rfl
  gl_peaceful_next := He.glo_ok Kh G (c.t.d.fact 6 (f := .glo (PySem.Str.ofString "peaceful_next")) rfl)
  fd_peaceful_next := c.t.d.def_ 6 (d := dOf (PySem.Str.ofString "peaceful_next") 8) rfl
  gl_most_at_peace := He.glo_ok Kh G (c.t.d.fact 7 (f := .glo (PySem.Str.ofString "most_at_peace")) rfl)
  fd_most_at_peace := c.t.d.def_ 7 (d := dOf (PySem.Str.ofString "most_at_peace") 9) rfl
  gl_bishop_number := He.glo_ok Kh G (c.t.d.fact 8 (f := .glo (PySem.Str.ofString "bishop_number")) rfl)
  fd_bishop_number := c.t.d.def_ 8 (d := dOf (PySem.Str.ofString "bishop_number") 11) rfl
  gl_bishop_peace := He.glo_ok Kh G (c.t.d.fact 9 (f := .glo (PySem.Str.ofString "bishop_peace")) rfl)
  fd_bishop_peace := c.t.d.def_ 9 (d := dOf (PySem.Str.ofString "bishop_peace") 12) rfl
  gl_told_bishops := He.glo_ok Kh G (c.t.d.fact 10 (f := .glo (PySem.Str.ofString "told_bishops")) rfl)
  fd_told_bishops := c.t.d.def_ 10 (d := dOf (PySem.Str.ofString "told_bishops") 13) rfl
  gl_told_bishop_peace := He.glo_ok Kh G (c.t.d.fact 11 (f := .glo (PySem.Str.ofString "told_bishop_peace")) rfl)
  fd_told_bishop_peace := c.t.d.def_ 11 (d := dOf (PySem.Str.ofString "told_bishop_peace") 14) rfl
  gl_bishop_block := He.glo_ok Kh G (c.t.d.fact 12 (f := .glo (PySem.Str.ofString "bishop_block")) rfl)
  fd_bishop_block := c.t.d.def_ 12 (d := dOf (PySem.Str.ofString "bishop_block") 15) rfl
  gl_sign_bounds := He.glo_ok Kh G (c.t.d.fact 13 (f := .glo (PySem.Str.ofString "sign_bounds")) rfl)
  fd_sign_bounds := c.t.d.def_ 13 (d := dOf (PySem.Str.ofString "sign_bounds") 16) rfl
  gl_king_peace := He.glo_ok Kh G (c.t.d.fact 14 (f := .glo (PySem.Str.ofString "king_peace")) rfl)
  fd_king_peace := c.t.d.def_ 14 (d := dOf (PySem.Str.ofString "king_peace") 18) rfl
  gl_places_by := He.glo_ok Kh G (c.t.d.fact 15 (f := .glo (PySem.Str.ofString "places_by")) rfl)
  fd_places_by := c.t.d.def_ 15 (d := dOf (PySem.Str.ofString "places_by") 19) rfl
  gl_squares_by := He.glo_ok Kh G (c.t.d.fact 16 (f := .glo (PySem.Str.ofString "squares_by")) rfl)
  fd_squares_by := c.t.d.def_ 16 (d := dOf (PySem.Str.ofString "squares_by") 20) rfl
  gl_told_king_peace := He.glo_ok Kh G (c.t.d.fact 17 (f := .glo (PySem.Str.ofString "told_king_peace")) rfl)
  fd_told_king_peace := c.t.d.def_ 17 (d := dOf (PySem.Str.ofString "told_king_peace") 21) rfl
  gl__law_source := He.glo_ok Kh G (c.t.d.fact 18 (f := .glo (PySem.Str.ofString "_law_source")) rfl)
  fd__law_source := c.t.d.def_ 18 (d := dOf (PySem.Str.ofString "_law_source") 23) rfl
  gl__law_pick := He.glo_ok Kh G (c.t.d.fact 19 (f := .glo (PySem.Str.ofString "_law_pick")) rfl)
  fd__law_pick := c.t.d.def_ 19 (d := dOf (PySem.Str.ofString "_law_pick") 24) rfl
  gl__law_of := He.glo_ok Kh G (c.t.d.fact 20 (f := .glo (PySem.Str.ofString "_law_of")) rfl)
  fd__law_of := c.t.d.def_ 20 (d := dOf (PySem.Str.ofString "_law_of") 25) rfl
  gl__law_slants := He.glo_ok Kh G (c.t.d.fact 21 (f := .glo (PySem.Str.ofString "_law_slants")) rfl)
  fd__law_slants := c.t.d.def_ 21 (d := dOf (PySem.Str.ofString "_law_slants") 26) rfl
  gl__law_queens := He.glo_ok Kh G (c.t.d.fact 22 (f := .glo (PySem.Str.ofString "_law_queens")) rfl)
  fd__law_queens := c.t.d.def_ 22 (d := dOf (PySem.Str.ofString "_law_queens") 27) rfl
  gl__law_pauls := He.glo_ok Kh G (c.t.d.fact 23 (f := .glo (PySem.Str.ofString "_law_pauls")) rfl)
  fd__law_pauls := c.t.d.def_ 23 (d := dOf (PySem.Str.ofString "_law_pauls") 28) rfl
  gl__law_bishops_right := He.glo_ok Kh G (c.t.d.fact 24 (f := .glo (PySem.Str.ofString "_law_bishops_right")) rfl)
  fd__law_bishops_right := c.t.d.def_ 24 (d := dOf (PySem.Str.ofString "_law_bishops_right") 29) rfl
  gl__law_squares := He.glo_ok Kh G (c.t.d.fact 25 (f := .glo (PySem.Str.ofString "_law_squares")) rfl)
  fd__law_squares := c.t.d.def_ 25 (d := dOf (PySem.Str.ofString "_law_squares") 30) rfl
  gl__law_blocks_right := He.glo_ok Kh G (c.t.d.fact 26 (f := .glo (PySem.Str.ofString "_law_blocks_right")) rfl)
  fd__law_blocks_right := c.t.d.def_ 26 (d := dOf (PySem.Str.ofString "_law_blocks_right") 31) rfl
  gl__law_queens_right := He.glo_ok Kh G (c.t.d.fact 27 (f := .glo (PySem.Str.ofString "_law_queens_right")) rfl)
  fd__law_queens_right := c.t.d.def_ 27 (d := dOf (PySem.Str.ofString "_law_queens_right") 32) rfl
  gl__law_knights_right := He.glo_ok Kh G (c.t.d.fact 28 (f := .glo (PySem.Str.ofString "_law_knights_right")) rfl)
  fd__law_knights_right := c.t.d.def_ 28 (d := dOf (PySem.Str.ofString "_law_knights_right") 33) rfl
  gl_law := He.glo_ok Kh G (c.t.d.fact 29 (f := .glo (PySem.Str.ofString "law")) rfl)
  fd_law := c.t.d.def_ 29 (d := dOf (PySem.Str.ofString "law") 34) rfl
theorem facts (HL : ∀ ns : List Int, ns.length ≤ 63 → ∃ o', F_law (.scr ns) [] = some (.fr (.bool true), o')) {P : Program} {w : World} {K : PySem.W.Frag} {h : Heap} {mg : Str → Option Value} {f : Addr} (Kh : K.In h) (G : h.Ns mainGlobals mg) (hfa : mg (PySem.Str.ofString "law") = some (.ref f)) (c : He.SaysX fa fn ts [] ex w h K) :
    ∃ fd : FuncData, (∀ (s : Shared) (v : Value), BindsTo s fd ⟨[v], []⟩ [(PySem.Str.ofString "script", v)]) ∧ ∀ base : Heap, K.In base → base.Ns mainGlobals mg → FnOk P w K mg base CX0 6 f fd [PySem.Str.ofString "script"] (DL.spLaw K) := by
  have hd := hd_of Kh G c
  have e := hfa.symm.trans hd.gl_law
  cases e
  obtain ⟨fd, F⟩ := hd.fd_law
  have b := FunD.bindsA (ps := [PySem.Str.ofString "script"]) F fun _ _ _ _ _ _ us hl => match us, hl with | [_], _ => rfl
  refine ⟨fd, fun s v => b s [v] rfl, fun base _ _ => ?_⟩
  exact law_of (fn_law hd F) HL
end LW

open PySem PySem.W PySem.Calls PyProof.Rows
theorem PySem.Challenge.cw_placesdefended_k30_whole_pieces_at_peace_holds : PySem.Challenge.rw_placesdefended_k30_whole_pieces_at_peace.Holds := by
  w_on; o_law
  refine HandSHeadRun.head_any (r := OpenLaw.row PySem.Challenge.rw_placesdefended_k30_whole_pieces_at_peace) (q := view (OpenLaw.row PySem.Challenge.rw_placesdefended_k30_whole_pieces_at_peace).prog [34]) (H := LW.hk) (ob := LW.ob) (M := 4000) (loose := LW.loose) (d := HandSHeadRun.topDef (OpenLaw.row PySem.Challenge.rw_placesdefended_k30_whole_pieces_at_peace).prog 34) (kwd := []) LW.ob_eq
    (by kernel_rfl) (fun s => by kernel_rfl) LW.run (by kernel_rfl) (by kernel_rfl) (by kernel_rfl) (by rfl) (by first | assumption | decide +kernel) (by decide +kernel) ⟨rfl, rfl, rfl, rfl, rfl, by decide +kernel⟩ ?hw ?hc
  case hw => w_witness2
  case hc =>
    refine L2.walk_ofE (l := PySem.Challenge.rw_placesdefended_k30_whole_pieces_at_peace) (n := 63) (k := 6) (x := PySem.Str.ofString "script") (CX := L2.CX0) rfl (by decide) (by kernel_rfl) ⟨rfl, by decide, by decide⟩ ?F (fun _ _ _ _ z => z)
    intro w mg fa h Y G hmg0
    obtain ⟨K, KX, c⟩ := Y
    have hmg : mg (PySem.Str.ofString "law") = some (.ref fa) := by
      have e : (HandSHeadRun.topDef (OpenLaw.row PySem.Challenge.rw_placesdefended_k30_whole_pieces_at_peace).prog 34).name = PySem.Str.ofString "law" := by kernel_rfl
      rw [← e]
      exact hmg0
    obtain ⟨fd, hb, hF⟩ := LW.facts LW.law_holds (P := (PySem.Challenge.rw_placesdefended_k30_whole_pieces_at_peace).prog) (w := w) KX G hmg c
    exact ⟨K, fd, DL.spLaw K, KX, hb, fun H a ns hl _ hS => ⟨a, ns, rfl, hS, hl, fun _ => rfl⟩, hF⟩

