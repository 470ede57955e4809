import PyProof.Rows.All
import Wide.All
import OpenK.AllK
import Wide.FinOn
import KE.KStateDown
import Lean
import HandS.ForMost
import HandS.WordsExc
import HandS.Defaults
import HandS.Head0
import HandS.Head1
import HandS.Head2
import HandS.HeadEnd
import HandS.HeadHook1
import HandS.HeadHook2
import HandS.Star
import HandS.TupAny
import HandS.Sort
import HandS.SortInts
import HandS.Conv
import HandS.Style
import HandS.DictComp
import HandS.Wide
import HandS.RaiseMore
import KE.SortData
import KE.DataCmp
import KE.DataEq
import KE.DataMinMax
import HandS.TupLen
import HandS.WordsDict
import HandS.More
import HandS.DictTup
import KE.KDictKeyed
import KE.GoesMore
import HandS.Zip
import HandS.HeadHook4
import HandS.IsInst
import PyProof.Rows.Range3
import PySem.Challenge.RW_placesdefended_k29_whole_rooks_counted_b
set_option Elab.async false
set_option linter.all false
set_option maxRecDepth 100000
set_option maxHeartbeats 0
namespace DL
open PySem PySem.Spec PyProof.Rows L2

/-! ## data held by values: Z says which addresses are frozen (never written again) -/
abbrev Zs := Addr → Prop
mutual
inductive DpZ (K : PySem.W.Frag) (Z : Zs) (H : Hp) : V → PyData → Prop
  | non : DpZ K Z H .non .none
  | bl (b : Bool) : DpZ K Z H (.bl b) (.bool b)
  | int (i : Int) : DpZ K Z H (.int i) (.int i)
  | str (x : Str) : DpZ K Z H (.str x) (.str x)
  | lst {a : Addr} {xs : List V} {ds : List PyData} : Z a → H a = some (.lst xs) → DpZs K Z H xs ds → DpZ K Z H (.ref a) (.list ds)
  | tup {a : Addr} {xs : List V} {ds : List PyData} : H a = some (.tup xs) → DpZs K Z H xs ds → DpZ K Z H (.ref a) (.tuple ds)
inductive DpZs (K : PySem.W.Frag) (Z : Zs) (H : Hp) : List V → List PyData → Prop
  | nil : DpZs K Z H [] []
  | cons {v : V} {vs : List V} {d : PyData} {ds : List PyData} : DpZ K Z H v d → DpZs K Z H vs ds → DpZs K Z H (v :: vs) (d :: ds)
end

section
variable {K : PySem.W.Frag} {Z Z' : Zs} {H H' : Hp}
mutual
theorem DpZ.keep (zu : ∀ a, Z a → Z' a) (k : ∀ a o, Z a → H a = some o → H' a = some o) (kt : ∀ a xs, H a = some (.tup xs) → H' a = some (.tup xs)) : ∀ {d : PyData} {v : V}, DpZ K Z H v d → DpZ K Z' H' v d
  | .none, _, h => by cases h; exact .non
  | .bool _, _, h => by cases h; exact .bl _
  | .int _, _, h => by cases h; exact .int _
  | .str _, _, h => by cases h; exact .str _
  | .list ds, _, h => by
    cases h with
    | lst z s t => exact .lst (zu _ z) (k _ _ z s) (DpZs.keep zu k kt t)
  | .tuple ds, _, h => by
    cases h with
    | tup s t => exact .tup (kt _ _ s) (DpZs.keep zu k kt t)
  | .dict _, _, h => by cases h
theorem DpZs.keep (zu : ∀ a, Z a → Z' a) (k : ∀ a o, Z a → H a = some o → H' a = some o) (kt : ∀ a xs, H a = some (.tup xs) → H' a = some (.tup xs)) : ∀ {ds : List PyData} {vs : List V}, DpZs K Z H vs ds → DpZs K Z' H' vs ds
  | [], _, h => by cases h; exact .nil
  | d :: ds, _, h => by
    cases h with
    | cons h t => exact .cons (DpZ.keep zu k kt h) (DpZs.keep zu k kt t)
end
theorem DpZ.tupAt {ds : List PyData} {v : V} (h : DpZ K Z H v (.tuple ds)) : ∃ a xs, v = .ref a ∧ H a = some (.tup xs) ∧ DpZs K Z H xs ds := by
  cases h with
  | tup s t => exact ⟨_, _, rfl, s, t⟩
theorem DpZ.sqt {a : Addr} {ds : List PyData} {v : V} (h : DpZ K Z H v (.tuple ds)) : ∃ a xs, v = .ref a ∧ SqT K H a xs ∧ DpZs K Z H xs ds := by
  cases h with
  | tup s t => exact ⟨_, _, rfl, .of s, t⟩
mutual
theorem DpZ.dp : ∀ {d : PyData} {v : V}, DpZ K Z H v d → Dp K H v d
  | .none, _, h => by cases h; exact .non
  | .bool _, _, h => by cases h; exact .bl _
  | .int _, _, h => by cases h; exact .int _
  | .str _, _, h => by cases h; exact .str _
  | .list ds, _, h => by
    cases h with
    | lst z s t => exact .lst (.of s) (DpZs.dp t)
  | .tuple ds, _, h => by
    cases h with
    | tup s t => exact .tup (.of s) (DpZs.dp t)
  | .dict _, _, h => by cases h
theorem DpZs.dp : ∀ {ds : List PyData} {vs : List V}, DpZs K Z H vs ds → DpAll K H vs ds
  | [], _, h => by cases h; exact .nil
  | d :: ds, _, h => by
    cases h with
    | cons h t => exact .cons (DpZ.dp h) (DpZs.dp t)
end
theorem DpZs.length : ∀ {vs : List V} {ds : List PyData}, DpZs K Z H vs ds → vs.length = ds.length
  | _, _, .nil => rfl
  | _, _, .cons _ t => congrArg (· + 1) (DpZs.length t)
theorem DpZs.at : ∀ {vs : List V} {ds : List PyData} {i : Nat} {v : V}, DpZs K Z H vs ds → vs[i]? = some v → ∃ d, ds[i]? = some d ∧ DpZ K Z H v d
  | _, _, _, _, .nil, e => by simp at e
  | _, _, 0, _, .cons h _, e => by simp at e; subst e; exact ⟨_, rfl, h⟩
  | _, _, i + 1, v, .cons _ t, e => by
    obtain ⟨d, h1, h2⟩ := DpZs.at (i := i) (v := v) t (by simpa using e)
    exact ⟨d, by simpa using h1, h2⟩
theorem DpZs.atD : ∀ {vs : List V} {ds : List PyData} {i : Nat} {d : PyData}, DpZs K Z H vs ds → ds[i]? = some d → ∃ v, vs[i]? = some v ∧ DpZ K Z H v d
  | _, _, _, _, .nil, e => by simp at e
  | _, _, 0, _, .cons h _, e => by simp at e; subst e; exact ⟨_, rfl, h⟩
  | _, _, i + 1, d, .cons _ t, e => by
    obtain ⟨v, h1, h2⟩ := DpZs.atD (i := i) (d := d) t (by simpa using e)
    exact ⟨v, by simpa using h1, h2⟩
theorem DpZs.append : ∀ {vs ws : List V} {ds es : List PyData}, DpZs K Z H vs ds → DpZs K Z H ws es → DpZs K Z H (vs ++ ws) (ds ++ es)
  | _, _, _, _, .nil, h => h
  | _, _, _, _, .cons h t, q => .cons h (DpZs.append t q)
theorem DpZs.take : ∀ {vs : List V} {ds : List PyData} (n : Nat), DpZs K Z H vs ds → DpZs K Z H (vs.take n) (ds.take n)
  | _, _, 0, _ => .nil
  | _, _, _ + 1, .nil => .nil
  | _, _, n + 1, .cons r t => .cons r (DpZs.take n t)
theorem DpZs.drop : ∀ {vs : List V} {ds : List PyData} (n : Nat), DpZs K Z H vs ds → DpZs K Z H (vs.drop n) (ds.drop n)
  | _, _, 0, r => r
  | _, _, _ + 1, .nil => .nil
  | _, _, n + 1, .cons _ t => DpZs.drop n t
theorem DpZs.set : ∀ {vs : List V} {ds : List PyData} {v : V} {d : PyData} (i : Nat), DpZs K Z H vs ds → DpZ K Z H v d → DpZs K Z H (vs.set i v) (ds.set i d)
  | _, _, _, _, _, .nil, _ => .nil
  | _, _, _, _, 0, .cons _ t, h => .cons h t
  | _, _, _, _, i + 1, .cons q t, h => .cons q (DpZs.set i t h)
theorem DpZs.rev {vs : List V} {ds : List PyData} (h : DpZs K Z H vs ds) : DpZs K Z H vs.reverse ds.reverse := by
  induction h using DpZs.rec (motive_1 := fun _ _ _ => True) with
  | nil => exact .nil
  | cons h t _ ih => rw [List.reverse_cons, List.reverse_cons]; exact ih.append (.cons h .nil)
  | _ => trivial
theorem DpZs.erase : ∀ {vs : List V} {ds : List PyData} (i : Nat), DpZs K Z H vs ds → DpZs K Z H (vs.eraseIdx i) (ds.eraseIdx i)
  | _, _, _, .nil => .nil
  | _, _, 0, .cons _ t => t
  | _, _, i + 1, .cons h t => .cons h (DpZs.erase i t)
theorem DpZs.rep {v : V} {d : PyData} (h : DpZ K Z H v d) : ∀ n : Nat, DpZs K Z H (List.replicate n v) (List.replicate n d)
  | 0 => .nil
  | n + 1 => .cons h (DpZs.rep h n)
end

/-! ## objects that a local owns -/
inductive Ob where
  | fr (d : PyData)
  | lst (l : List PyData)
  | ll (l : List (List PyData))
  | acc (n : Nat) (r : List PyData)
  | dk (kvs : List (Key × PyData))
  | dt (kvs : List (List Key × PyData))
  | scr (l : List Int)
  | src (cells : List Int) (left mixed turn : Int)

inductive LLs (K : PySem.W.Frag) (Z : Zs) (H : Hp) : List Addr → List (List PyData) → Prop
  | nil : LLs K Z H [] []
  | cons {b : Addr} {bs : List Addr} {vs : List V} {l : List PyData} {ls : List (List PyData)} : H b = some (.lst vs) → DpZs K Z H vs l → LLs K Z H bs ls → LLs K Z H (b :: bs) (l :: ls)

/-- a table's values -/
inductive DKv {κ : Type} (K : PySem.W.Frag) (Z : Zs) (H : Hp) : List (κ × V) → List (κ × PyData) → Prop
  | nil : DKv K Z H [] []
  | cons {k : κ} {v : V} {d : PyData} {kvs : List (κ × V)} {kds : List (κ × PyData)} : DpZ K Z H v d → DKv K Z H kvs kds → DKv K Z H ((k, v) :: kvs) ((k, d) :: kds)
theorem DKv.keep {κ : Type} {K : PySem.W.Frag} {Z Z' : Zs} {H H' : Hp} (zu : ∀ a, Z a → Z' a) (k : ∀ a o, Z a → H a = some o → H' a = some o) (kt : ∀ a xs, H a = some (.tup xs) → H' a = some (.tup xs)) {kvs : List (κ × V)} {kds : List (κ × PyData)} (h : DKv K Z H kvs kds) : DKv K Z' H' kvs kds := by
  induction h with
  | nil => exact .nil
  | cons r _ ih => exact .cons (r.keep zu k kt) ih

def kCells : Key := .inr (PySem.Str.ofString "cells")
def kLeft : Key := .inr (PySem.Str.ofString "left")
def kMixed : Key := .inr (PySem.Str.ofString "mixed")
def kTurn : Key := .inr (PySem.Str.ofString "turn")

/-- v bears the object o, whose own (written) addresses are fp -/
inductive RepO (K : PySem.W.Frag) (Z : Zs) (H : Hp) : V → Ob → List Addr → Prop
  | fr {v : V} {d : PyData} : DpZ K Z H v d → RepO K Z H v (.fr d) []
  | lst {a : Addr} {vs : List V} {l : List PyData} : H a = some (.lst vs) → DpZs K Z H vs l → RepO K Z H (.ref a) (.lst l) [a]
  | ll {a : Addr} {bs : List Addr} {l : List (List PyData)} : H a = some (.lst (bs.map V.ref)) → LLs K Z H bs l → RepO K Z H (.ref a) (.ll l) (a :: bs)
  | acc {a : Addr} {vs : List V} {n : Nat} {r : List PyData} : H a = some (.lst vs) → DpZs K Z H vs r.reverse → n = r.length → RepO K Z H (.ref a) (.acc n r) [a]
  | dk {a : Addr} {kvs : List (Key × V)} {kds : List (Key × PyData)} : H a = some (.dK kvs) → DKv K Z H kvs kds → RepO K Z H (.ref a) (.dk kds) [a]
  | dt {a : Addr} {kvs : List (List Key × V)} {kds : List (List Key × PyData)} : H a = some (.dT kvs) → DKv K Z H kvs kds → RepO K Z H (.ref a) (.dt kds) [a]
  | scr {a : Addr} {l : List Int} : ((Z a ∧ Rd H a (.lst (l.map V.int))) ∨ ∀ H : Hp, SqL K H a (l.map V.int)) → RepO K Z H (.ref a) (.scr l) []
  | src {a c : Addr} {cells : List Int} {left mixed turn : Int} : H a = some (.dK [(kCells, .ref c), (kLeft, .int left), (kMixed, .int mixed), (kTurn, .int turn)]) → H c = some (.lst (cells.map V.int)) → RepO K Z H (.ref a) (.src cells left mixed turn) [a, c]

/-- what lies between two states: fp is what might be written, fq what is owned behind -/
structure Fr (H : Hp) (fp : List Addr) (Z : Zs) (H' : Hp) (fq : List Addr) (Z' : Zs) : Prop where
  same : ∀ b o, H b = some o → b ∉ fp → H' b = some o
  zup : ∀ b, Z b → Z' b
  znew : ∀ b o, H b = some o → Z' b → Z b ∨ b ∈ fp
  new : ∀ b o, H b = some o → b ∈ fq → b ∈ fp
  zal : (∀ b, Z b → ∃ o, H b = some o) → ∀ b, Z' b → ∃ o, H' b = some o

/-- no tuple -/
def Mt : HO → Prop
  | .tup _ => False
  | _ => True
structure Own (Z : Zs) (H : Hp) (fp : List Addr) : Prop where
  nd : fp.Nodup
  nz : ∀ a ∈ fp, ¬ Z a
  al : ∀ a ∈ fp, ∃ o, H a = some o ∧ Mt o

section
variable {K : PySem.W.Frag} {Z Z' Z1 Z2 : Zs} {H H' H1 H2 : Hp} {fp fq fr g : List Addr}
theorem Fr.refl : Fr H fp Z H fp Z := ⟨fun _ _ h _ => h, fun _ z => z, fun _ _ _ z => .inl z, fun _ _ _ m => m, fun q => q⟩
theorem Fr.nil : Fr H fp Z H [] Z := ⟨fun _ _ h _ => h, fun _ z => z, fun _ _ _ z => .inl z, fun _ _ _ m => (nomatch m), fun q => q⟩
theorem Fr.trans (a : Fr H fp Z H1 fq Z1) (b : Fr H1 fq Z1 H2 fr Z2) : Fr H fp Z H2 fr Z2 where
  same := fun c o h n => b.same c o (a.same c o h n) fun m => n (a.new c o h m)
  zup := fun c z => b.zup c (a.zup c z)
  znew := fun c o h z => by
    by_cases m : c ∈ fp
    · exact .inr m
    · rcases b.znew c o (a.same c o h m) z with z | z
      · exact a.znew c o h z
      · exact .inr (a.new c o h z)
  new := fun c o h m => by
    by_cases n : c ∈ fp
    · exact n
    · exact a.new c o h (b.new c o (a.same c o h n) m)
  zal := fun q => b.zal (a.zal q)
/-- more may be written -/
theorem Fr.more (a : Fr H fp Z H1 fq Z1) (h : ∀ b ∈ fp, b ∈ fr) : Fr H fr Z H1 fq Z1 :=
  ⟨fun b o e n => a.same b o e fun m => n (h b m), a.zup, fun b o e z => (a.znew b o e z).imp id (h b), fun b o e m => h b (a.new b o e m), a.zal⟩
theorem Fr.less (a : Fr H fp Z H1 fq Z1) (h : ∀ b ∈ fr, b ∈ fq) : Fr H fp Z H1 fr Z1 :=
  ⟨a.same, a.zup, a.znew, fun b o e m => a.new b o e (h b m), a.zal⟩
/-- what stands aside stays -/
theorem Fr.aside (a : Fr H fp Z H1 fq Z1) : Fr H (g ++ fp) Z H1 (g ++ fq) Z1 where
  same := fun b o e n => a.same b o e fun m => n (List.mem_append_right _ m)
  zup := a.zup
  znew := fun b o e z => (a.znew b o e z).imp id (List.mem_append_right _)
  new := fun b o e m => (List.mem_append.mp m).elim (List.mem_append_left _) fun m => List.mem_append_right _ (a.new b o e m)
  zal := a.zal

/-- fp has no tuple -/
abbrev Nt (H : Hp) (fp : List Addr) : Prop := ∀ b xs, H b = some (.tup xs) → b ∉ fp
theorem LLs.keep (a : Fr H fp Z H' fq Z') (nt : Nt H fp) {bs : List Addr} {ls : List (List PyData)} (dj : ∀ b ∈ bs, b ∉ fp) (nz : ∀ b, Z b → b ∉ fp) (h : LLs K Z H bs ls) : LLs K Z' H' bs ls := by
  induction h with
  | nil => exact .nil
  | cons e d _ ih => exact .cons (a.same _ _ e (dj _ List.mem_cons_self)) (d.keep a.zup (fun b o z q => a.same b o q (nz b z)) fun b xs q => a.same b _ q (nt b xs q)) (ih fun b m => dj b (List.mem_cons_of_mem _ m))
theorem RepO.keep {v : V} {o : Ob} (a : Fr H fp Z H' fq Z') (nt : Nt H fp) (dj : ∀ b ∈ g, b ∉ fp) (nz : ∀ b, Z b → b ∉ fp) (h : RepO K Z H v o g) : RepO K Z' H' v o g := by
  cases h with
  | fr d => exact .fr (d.keep a.zup (fun b o z q => a.same b o q (nz b z)) fun b xs q => a.same b _ q (nt b xs q))
  | lst e d => exact .lst (a.same _ _ e (dj _ List.mem_cons_self)) (d.keep a.zup (fun b o z q => a.same b o q (nz b z)) fun b xs q => a.same b _ q (nt b xs q))
  | ll e d => exact .ll (a.same _ _ e (dj _ List.mem_cons_self)) (d.keep a nt (fun b m => dj b (List.mem_cons_of_mem _ m)) nz)
  | acc e d hn => exact .acc (a.same _ _ e (dj _ List.mem_cons_self)) (d.keep a.zup (fun b o z q => a.same b o q (nz b z)) fun b xs q => a.same b _ q (nt b xs q)) hn
  | dk e d => exact .dk (a.same _ _ e (dj _ List.mem_cons_self)) (d.keep a.zup (fun b o z q => a.same b o q (nz b z)) fun b xs q => a.same b _ q (nt b xs q))
  | dt e d => exact .dt (a.same _ _ e (dj _ List.mem_cons_self)) (d.keep a.zup (fun b o z q => a.same b o q (nz b z)) fun b xs q => a.same b _ q (nt b xs q))
  | scr e => exact .scr (e.imp (fun ⟨z, e⟩ => ⟨a.zup _ z, e.imp (fun e => a.same _ _ e (nz _ z)) fun ⟨o, e⟩ => ⟨o, a.same _ _ e (nz _ z)⟩⟩) id)
  | src e d => exact .src (a.same _ _ e (dj _ List.mem_cons_self)) (a.same _ _ d (dj _ (List.mem_cons_of_mem _ List.mem_cons_self)))
theorem LLs.alive {bs : List Addr} {ls : List (List PyData)} (h : LLs K Z H bs ls) : ∀ b ∈ bs, ∃ o, H b = some o ∧ Mt o := by
  induction h with
  | nil => intro b m; cases m
  | cons e _ _ ih =>
    intro b m
    rcases List.mem_cons.mp m with rfl | m
    · exact ⟨_, e, trivial⟩
    · exact ih b m
theorem RepO.alive {v : V} {o : Ob} (h : RepO K Z H v o g) : ∀ b ∈ g, ∃ o, H b = some o ∧ Mt o := by
  cases h with
  | fr _ => intro b m; cases m
  | lst e _ =>
    intro b m
    rcases List.mem_cons.mp m with rfl | m
    · exact ⟨_, e, trivial⟩
    · cases m
  | ll e d =>
    intro b m
    rcases List.mem_cons.mp m with rfl | m
    · exact ⟨_, e, trivial⟩
    · exact d.alive b m
  | acc e _ _ =>
    intro b m
    rcases List.mem_cons.mp m with rfl | m
    · exact ⟨_, e, trivial⟩
    · cases m
  | dk e _ =>
    intro b m
    rcases List.mem_cons.mp m with rfl | m
    · exact ⟨_, e, trivial⟩
    · cases m
  | dt e _ =>
    intro b m
    rcases List.mem_cons.mp m with rfl | m
    · exact ⟨_, e, trivial⟩
    · cases m
  | scr _ => intro b m; cases m
  | src e d =>
    intro b m
    rcases List.mem_cons.mp m with rfl | m
    · exact ⟨_, e, trivial⟩
    · rcases List.mem_cons.mp m with rfl | m
      · exact ⟨_, d, trivial⟩
      · cases m

/-! ### owning -/
theorem Own.nil : Own Z H [] := ⟨List.nodup_nil, fun _ m => (nomatch m), fun _ m => (nomatch m)⟩
theorem Own.left (h : Own Z H (g ++ fp)) : Own Z H g := ⟨(List.nodup_append.mp h.nd).1, fun a m => h.nz a (List.mem_append_left _ m), fun a m => h.al a (List.mem_append_left _ m)⟩
theorem Own.right (h : Own Z H (g ++ fp)) : Own Z H fp := ⟨(List.nodup_append.mp h.nd).2.1, fun a m => h.nz a (List.mem_append_right _ m), fun a m => h.al a (List.mem_append_right _ m)⟩
theorem Own.apart (h : Own Z H (g ++ fp)) : ∀ b ∈ g, b ∉ fp := fun b m n => (List.nodup_append.mp h.nd).2.2 b m b n rfl
theorem Own.nt (h : Own Z H fp) : Nt H fp := fun b xs e m => by
  obtain ⟨o, q, t⟩ := h.al b m
  rw [e] at q; cases q; exact t
theorem Own.nzf (h : Own Z H fp) : ∀ b, Z b → b ∉ fp := fun b z m => h.nz b m z
/-- fp is worked on, g stands aside -/
theorem Own.aside (h : Own Z H (g ++ fp)) (a : Fr H fp Z H' fq Z') (h' : Own Z' H' fq) : Own Z' H' (g ++ fq) where
  nd := by
    refine List.nodup_append.mpr ⟨h.left.nd, h'.nd, fun x m y n e => ?_⟩
    subst e
    obtain ⟨o, q, _⟩ := h.al x (List.mem_append_left _ m)
    exact h.apart x m (a.new x o q n)
  nz := fun x m z => by
    rcases List.mem_append.mp m with m | m
    · obtain ⟨o, q, _⟩ := h.left.al x m
      rcases a.znew x o q z with z | z
      · exact h.left.nz x m z
      · exact h.apart x m z
    · exact h'.nz x m z
  al := fun x m => by
    rcases List.mem_append.mp m with m | m
    · obtain ⟨o, q, t⟩ := h.left.al x m
      exact ⟨o, a.same x o q (h.apart x m), t⟩
    · exact h'.al x m
/-- nothing is worked on: new things -/
theorem Own.fresh (h : Own Z H g) (a : Fr H [] Z H' fq Z') (h' : Own Z' H' fq) : Own Z' H' (g ++ fq) := by
  have h0 : Own Z H (g ++ []) := by rw [List.append_nil]; exact h
  exact h0.aside a h'
theorem Own.still (h : Own Z H g) (a : Fr H [] Z H' fq Z') : Own Z' H' g :=
  { nd := h.nd
    nz := fun x m z => by
      obtain ⟨o, q, _⟩ := h.al x m
      rcases a.znew x o q z with z | z
      · exact h.nz x m z
      · cases z
    al := fun x m => by
      obtain ⟨o, q, t⟩ := h.al x m
      exact ⟨o, a.same x o q (by simp), t⟩ }
theorem Own.swap (h : Own Z H (g ++ fp)) : Own Z H (fp ++ g) :=
  ⟨by
    obtain ⟨a, b, c⟩ := List.nodup_append.mp h.nd
    exact List.nodup_append.mpr ⟨b, a, fun x m y n e => c y n x m e.symm⟩, fun x m => h.nz x (List.mem_append.mpr (List.mem_append.mp m).symm), fun x m => h.al x (List.mem_append.mpr (List.mem_append.mp m).symm)⟩
theorem RepO.still {v : V} {o : Ob} (a : Fr H [] Z H' fq Z') (h : RepO K Z H v o g) : RepO K Z' H' v o g := h.keep a (fun _ _ _ m => (nomatch m)) (fun _ _ m => (nomatch m)) fun _ _ m => (nomatch m)
theorem DpZ.still {v : V} {d : PyData} (a : Fr H [] Z H' fq Z') (h : DpZ K Z H v d) : DpZ K Z' H' v d := h.keep a.zup (fun b o _ q => a.same b o q (by simp)) fun b xs q => a.same b _ q (by simp)
theorem DpZs.still {v : List V} {d : List PyData} (a : Fr H [] Z H' fq Z') (h : DpZs K Z H v d) : DpZs K Z' H' v d := h.keep a.zup (fun b o _ q => a.same b o q (by simp)) fun b xs q => a.same b _ q (by simp)
end

/-! ## the locals -/
abbrev Env := List (Option Ob)
/-- the slots: σ bears ρ, whose owned addresses are fp (each slot's own, one behind another) -/
inductive ER (K : PySem.W.Frag) (Z : Zs) (H : Hp) : L2.St → Env → List Addr → Prop
  | nil : ER K Z H [] [] []
  | no {x : Option V} {σ : L2.St} {ρ : Env} {fp : List Addr} : ER K Z H σ ρ fp → ER K Z H (x :: σ) (none :: ρ) fp
  | one {v : V} {o : Ob} {g : List Addr} {σ : L2.St} {ρ : Env} {fp : List Addr} : RepO K Z H v o g → ER K Z H σ ρ fp → ER K Z H (some v :: σ) (some o :: ρ) (g ++ fp)
section
variable {K : PySem.W.Frag} {Z Z' : Zs} {H H' : Hp} {fp fq g : List Addr} {σ : L2.St} {ρ : Env}
theorem ER.keep (a : Fr H g Z H' fq Z') (nt : Nt H g) (dj : ∀ b ∈ fp, b ∉ g) (nz : ∀ b, Z b → b ∉ g) (h : ER K Z H σ ρ fp) : ER K Z' H' σ ρ fp := by
  induction h with
  | nil => exact .nil
  | no _ ih => exact .no (ih dj)
  | one r _ ih => exact .one (r.keep a nt (fun b m => dj b (List.mem_append_left _ m)) nz) (ih fun b m => dj b (List.mem_append_right _ m))
theorem ER.still (a : Fr H [] Z H' fq Z') (h : ER K Z H σ ρ fp) : ER K Z' H' σ ρ fp := h.keep a (fun _ _ _ m => (nomatch m)) (fun _ _ m => (nomatch m)) fun _ _ m => (nomatch m)
theorem ER.len (h : ER K Z H σ ρ fp) : σ.length = ρ.length := by
  induction h with
  | nil => rfl
  | no _ ih => simp [ih]
  | one _ _ ih => simp [ih]
theorem ER.get {i : Nat} {o : Ob} (h : ER K Z H σ ρ fp) (e : ρ[i]? = some (some o)) : ∃ v g, σ[i]? = some (some v) ∧ RepO K Z H v o g ∧ ∀ b ∈ g, b ∈ fp := by
  induction h generalizing i with
  | nil => simp at e
  | no _ ih =>
    cases i with
    | zero => simp at e
    | succ i =>
      obtain ⟨v, g, h1, h2, h3⟩ := ih (i := i) (by simpa using e)
      exact ⟨v, g, by simpa using h1, h2, h3⟩
  | one r _ ih =>
    cases i with
    | zero =>
      simp at e
      subst e
      exact ⟨_, _, rfl, r, fun b m => List.mem_append_left _ m⟩
    | succ i =>
      obtain ⟨v, g, h1, h2, h3⟩ := ih (i := i) (by simpa using e)
      exact ⟨v, g, by simpa using h1, h2, fun b m => List.mem_append_right _ (h3 b m)⟩
end
/-- the whole state of a body -/
structure Stt (K : PySem.W.Frag) (Z : Zs) (H : Hp) (σ : L2.St) (ρ : Env) (fp : List Addr) : Prop where
  er : ER K Z H σ ρ fp
  own : Own Z H fp
  za : ∀ b, Z b → ∃ o, H b = some o
section
variable {K : PySem.W.Frag} {Z Z' : Zs} {H H' : Hp} {fp fq g : List Addr} {σ : L2.St} {ρ : Env}
theorem Stt.still (a : Fr H [] Z H' fq Z') (h : Stt K Z H σ ρ fp) : Stt K Z' H' σ ρ fp := ⟨h.er.still a, h.own.still a, a.zal h.za⟩
end
end DL

namespace DL
open PySem PySem.Spec PyProof.Rows L2

/-! ## judgements -/
abbrev F1 := Env → Option Ob
/-- pure, to be read at once -/
def tR (K : PySem.W.Frag) (f : F1) : TE := fun σ H Q => ∃ Z ρ fp o, Stt K Z H σ ρ fp ∧ f ρ = some o ∧ ∀ Z' H' v g, RepO K Z' H' v o g → Fr H [] Z H' [] Z' → Q v H'
/-- pure, apart from all else -/
def tP (K : PySem.W.Frag) (f : F1) : TE := fun σ H Q => ∃ Z ρ fp o, Stt K Z H σ ρ fp ∧ f ρ = some o ∧ ∀ Z' H' v g, RepO K Z' H' v o g → Own Z' H' g → Fr H [] Z H' g Z' → Q v H'
abbrev PR (X : Cx) (e : Expr) (f : F1) : Prop := PE X e (tR X.K f)
abbrev DP (X : Cx) (e : Expr) (f : F1) : Prop := PE X e (tP X.K f)
theorem PE.imp {X : Cx} {e : Expr} {t t' : TE} (h : PE X e t) (k : ∀ σ H Q, t' σ H Q → t σ H Q) : PE X e t' := ⟨fun pins s σ H Q I q => h.run pins s σ H Q I (k σ H Q q)⟩
theorem tP_tR {K : PySem.W.Frag} {f : F1} {σ : L2.St} {H : Hp} {Q : VK} (h : tR K f σ H Q) : tP K f σ H Q := by
  obtain ⟨Z, ρ, fp, o, S, e, k⟩ := h
  exact ⟨Z, ρ, fp, o, S, e, fun Z' H' v g r _ a => k Z' H' v g r (a.less fun _ m => (nomatch m))⟩
theorem DP.pr {X : Cx} {e : Expr} {f : F1} (h : DP X e f) : PR X e f := PE.imp h fun _ _ _ q => tP_tR q

/-! ## data out of objects -/
def asD : Ob → Option PyData
  | .fr d => some d
  | _ => none
def asI : Ob → Option Int
  | .fr (.int i) => some i
  | _ => none
def asB : Ob → Option Bool
  | .fr (.bool b) => some b
  | _ => none
/-- a list's or tuple's items, to be read -/
def asSeq : Ob → Option (List PyData)
  | .fr (.list l) => some l
  | .fr (.tuple l) => some l
  | .lst l => some l
  | .acc _ r => some r.reverse
  | .scr l => some (l.map .int)
  | _ => none
def asLst : Ob → Option (List PyData)
  | .fr (.list l) => some l
  | .lst l => some l
  | .acc _ r => some r.reverse
  | _ => none
def asTup : Ob → Option (List PyData)
  | .fr (.tuple l) => some l
  | _ => none
/-- the data that it reads as -/
def asData : Ob → Option PyData
  | .fr d => some d
  | .lst l => some (.list l)
  | .acc _ r => some (.list r.reverse)
  | _ => none
section
variable {K : PySem.W.Frag} {Z : Zs} {H : Hp} {v : V} {o : Ob} {g : List Addr}
theorem asD_rep {d : PyData} (r : RepO K Z H v o g) (e : asD o = some d) : DpZ K Z H v d ∧ g = [] := by
  cases r with
  | fr h => cases e; exact ⟨h, rfl⟩
  | _ => cases e
theorem asI_rep {i : Int} (r : RepO K Z H v o g) (e : asI o = some i) : v = .int i := by
  cases r with
  | fr h =>
    rename_i d
    cases d with
    | int j => cases e; cases h; rfl
    | _ => cases e
  | _ => cases e
theorem asI_eq {i : Int} (e : asI o = some i) : o = .fr (.int i) := by
  cases o with
  | fr d =>
    cases d with
    | int j => cases e; rfl
    | _ => cases e
  | _ => cases e
theorem asB_rep {b : Bool} (r : RepO K Z H v o g) (e : asB o = some b) : v = .bl b := by
  cases r with
  | fr h =>
    rename_i d
    cases d with
    | bool j => cases e; cases h; rfl
    | _ => cases e
  | _ => cases e
theorem asLst_rep {l : List PyData} (r : RepO K Z H v o g) (e : asLst o = some l) : ∃ a vs, v = .ref a ∧ H a = some (.lst vs) ∧ DpZs K Z H vs l := by
  cases r with
  | fr h =>
    rename_i d
    cases d with
    | list l' =>
      cases e
      cases h with
      | lst _ s t => exact ⟨_, _, rfl, s, t⟩
    | _ => cases e
  | lst h t => cases e; exact ⟨_, _, rfl, h, t⟩
  | acc h t _ => cases e; exact ⟨_, _, rfl, h, t⟩
  | _ => cases e
theorem asTup_rep {l : List PyData} (r : RepO K Z H v o g) (e : asTup o = some l) : ∃ a vs, v = .ref a ∧ SqT K H a vs ∧ DpZs K Z H vs l := by
  cases r with
  | fr h =>
    rename_i d
    cases d with
    | tuple l' =>
      cases e
      exact h.sqt (a := 0)
    | _ => cases e
  | _ => cases e
theorem scr_ints : ∀ l : List Int, DpZs K Z H (l.map V.int) (l.map PyData.int)
  | [] => .nil
  | i :: l => .cons (.int i) (scr_ints l)
theorem asSeq_rep {l : List PyData} (r : RepO K Z H v o g) (e : asSeq o = some l) : ∃ a vs, v = .ref a ∧ (SqL K H a vs ∨ SqT K H a vs) ∧ DpZs K Z H vs l := by
  cases r with
  | fr h =>
    rename_i d
    cases d with
    | list l' =>
      cases e
      cases h with
      | lst _ s t => exact ⟨_, _, rfl, .inl (.of s), t⟩
    | tuple l' =>
      cases e
      obtain ⟨a, xs, e, s, t⟩ := h.sqt (a := 0)
      exact ⟨a, xs, e, .inr s, t⟩
    | _ => cases e
  | lst h t => cases e; exact ⟨_, _, rfl, .inl (.of h), t⟩
  | acc h t _ => cases e; exact ⟨_, _, rfl, .inl (.of h), t⟩
  | scr h =>
    cases e
    rcases h with ⟨_, h⟩ | h
    · exact ⟨_, _, rfl, .inl (.inl h), scr_ints _⟩
    · exact ⟨_, _, rfl, .inl (h H), scr_ints _⟩
  | _ => cases e
theorem asData_rep {d : PyData} (r : RepO K Z H v o g) (e : asData o = some d) : Dp K H v d := by
  cases r with
  | fr h => cases e; exact h.dp
  | lst h t => cases e; exact .lst (.of h) t.dp
  | acc h t _ => cases e; exact .lst (.of h) t.dp
  | _ => cases e
end

/-! ## names, constants -/
def rdV (i : Nat) : F1 := fun ρ => (ρ[i]?).join
def frV (i : Nat) : F1 := fun ρ => ((ρ[i]?).join.bind asD).map .fr
def kO (d : PyData) : F1 := fun _ => some (.fr d)
section
variable {X : Cx} {pos : Pos}
theorem r_var (i : Nat) {x : Str} (hN : X.N[i]? = some x := by rfl) (hv : Vis X.env.scope x := by first | exact Or.inl rfl | exact Or.inr (Or.inl rfl) | exact Or.inr (Or.inr rfl)) (hd : (x == ("__debug__" : Str)) = false := by decide)
    (hcd : (x == ("__classdict__" : Str)) = false := by decide) : PR X (.Name x pos) (rdV i) := PE.imp (pe_var hN hv hd hcd) fun σ H Q h => by
  obtain ⟨Z, ρ, fp, o, S, e, k⟩ := h
  have e' : ρ[i]? = some (some o) := by
    unfold rdV at e
    cases q : ρ[i]? with
    | none => rw [q] at e; cases e
    | some x => rw [q] at e; rw [show x = some o from e]
  obtain ⟨v, g, h1, h2, _⟩ := S.er.get e'
  exact ⟨v, h1, k Z H v g h2 .refl⟩
theorem d_var (i : Nat) {x : Str} (hN : X.N[i]? = some x := by rfl) (hv : Vis X.env.scope x := by first | exact Or.inl rfl | exact Or.inr (Or.inl rfl) | exact Or.inr (Or.inr rfl)) (hd : (x == ("__debug__" : Str)) = false := by decide)
    (hcd : (x == ("__classdict__" : Str)) = false := by decide) : DP X (.Name x pos) (frV i) := PE.imp (pe_var hN hv hd hcd) fun σ H Q h => by
  obtain ⟨Z, ρ, fp, o, S, e, k⟩ := h
  unfold frV at e
  cases q : (ρ[i]?).join with
  | none => rw [q] at e; cases e
  | some o' =>
    rw [q] at e
    have e' : ρ[i]? = some (some o') := by
      cases q2 : ρ[i]? with
      | none => rw [q2] at q; cases q
      | some x => rw [q2] at q; rw [show x = some o' from q]
    cases h3 : asD o' with
    | none =>
      have e2 : (asD o').map Ob.fr = some o := e
      rw [h3] at e2
      cases e2
    | some d =>
      have e2 : (asD o').map Ob.fr = some o := e
      rw [h3] at e2
      cases e2
      obtain ⟨v, g, h1, h2, _⟩ := S.er.get e'
      obtain ⟨h4, rfl⟩ := asD_rep h2 h3
      exact ⟨v, h1, k Z H v [] (.fr h4) .nil .refl⟩
theorem d_k {e : Expr} {v : V} {d : PyData} (h : PE X e (tC v)) (r : ∀ Z H, DpZ X.K Z H v d) : DP X e (kO d) := PE.imp h fun σ H Q h => by
  obtain ⟨Z, ρ, fp, o, S, e, k⟩ := h
  cases e
  exact k Z H v [] (.fr (r Z H)) .nil .nil
theorem d_int {i : Int} {j} : DP X (.Constant (.int i) j pos) (kO (.int i)) := d_k pe_int fun _ _ => .int i
theorem d_bl {b : Bool} {j} : DP X (.Constant (.bool b) j pos) (kO (.bool b)) := d_k pe_bl fun _ _ => .bl b
theorem d_non {j} : DP X (.Constant .none j pos) (kO .none) := d_k pe_non fun _ _ => .non
theorem d_str {x : Str} {j} : DP X (.Constant (.str x) j pos) (kO (.str x)) := d_k pe_str fun _ _ => .str x
end

/-! ## operations on values that are read -/
abbrev Rst (K : PySem.W.Frag) (Z : Zs) (H : Hp) (o : Ob) (Q : VK) : Prop := ∀ Z' H' v g, RepO K Z' H' v o g → Own Z' H' g → Fr H [] Z H' g Z' → Q v H'
abbrev Za (Z : Zs) (H : Hp) : Prop := ∀ b, Z b → ∃ o, H b = some o
def Rd1 (K : PySem.W.Frag) (r : V → Hp → VK → Prop) (g : Ob → Option Ob) : Prop := ∀ Z H v o h o' Q, Za Z H → RepO K Z H v o h → g o = some o' → Rst K Z H o' Q → r v H Q
def Rd2 (K : PySem.W.Frag) (r : R2) (g : Ob → Ob → Option Ob) : Prop := ∀ Z H v u o p h h' o' Q, Za Z H → RepO K Z H v o h → RepO K Z H u p h' → g o p = some o' → Rst K Z H o' Q → r v u H Q
section
variable {K : PySem.W.Frag} {Z : Zs} {H : Hp} {Q : VK} {o : Ob}
/-- a value that needs no object -/
theorem Rst.flat {v : V} {d : PyData} (k : Rst K Z H (.fr d) Q) (h : DpZ K Z H v d) : Q v H := k Z H v [] (.fr h) .nil .nil
theorem upd_fr {H : Hp} {Z : Zs} {p : Addr} {o : HO} {g : List Addr} (np : H p = none) (Z' : Zs) (zu : ∀ a, Z a → Z' a) (zn : ∀ a, Z' a → Z a ∨ a = p) (hg : ∀ b ∈ g, b = p) : Fr H [] Z (upd H p o) g Z' where
  same := fun b u e _ => by rw [upd_ne (ne_of_none e np)]; exact e
  zup := zu
  znew := fun b u e z => by
    rcases zn b z with z | rfl
    · exact .inl z
    · rw [np] at e; cases e
  new := fun b u e m => by
    have q := hg b m
    subst q
    rw [np] at e; cases e
  zal := fun q b z => by
    by_cases e : b = p
    · subst e; exact ⟨_, upd_same⟩
    · rcases zn b z with z | z
      · rw [upd_ne e]; exact q b z
      · exact absurd z e
/-- a new list -/
theorem Rst.lst {vs : List V} {l : List PyData} (k : Rst K Z H (.lst l) Q) (h : DpZs K Z H vs l) (za : Za Z H) : ∀ p, H p = none → Q (.ref p) (upd H p (.lst vs)) := fun p np => by
  have a : Fr H [] Z (upd H p (.lst vs)) [p] Z := upd_fr np Z (fun _ z => z) (fun _ z => .inl z) (fun b m => by simpa using m)
  refine k Z (upd H p (.lst vs)) (.ref p) [p] (.lst upd_same (h.still a)) ⟨by simp, fun b m z => ?_, fun b m => ?_⟩ a
  · obtain rfl : b = p := by simpa using m
    obtain ⟨o, q⟩ := za b z
    rw [np] at q; cases q
  · obtain rfl : b = p := by simpa using m
    exact ⟨_, upd_same, trivial⟩
/-- a new tuple -/
theorem Rst.tup {vs : List V} {l : List PyData} (k : Rst K Z H (.fr (.tuple l)) Q) (h : DpZs K Z H vs l) : ∀ p, H p = none → Q (.ref p) (upd H p (.tup vs)) := fun p np => by
  have a : Fr H [] Z (upd H p (.tup vs)) [] Z := upd_fr np Z (fun _ z => z) (fun _ z => .inl z) (fun b m => (nomatch m))
  exact k Z (upd H p (.tup vs)) (.ref p) [] (.fr (.tup upd_same (h.still a))) .nil a
end
end DL

namespace DL
open PySem PySem.Spec PyProof.Rows L2

/-! ## composition -/
def o1 (g : Ob → Option Ob) (fa : F1) : F1 := fun ρ => (fa ρ).bind g
def o2 (g : Ob → Ob → Option Ob) (fa fb : F1) : F1 := fun ρ => (fa ρ).bind fun x => (fb ρ).bind fun y => g x y
theorem bind_some {α β : Type} {x : Option α} {f : α → Option β} {b : β} (h : x.bind f = some b) : ∃ a, x = some a ∧ f a = some b := by
  cases x with
  | none => cases h
  | some a => exact ⟨a, rfl, h⟩
section
variable {X : Cx} {pos : Pos} {a b : Expr} {fa fb : F1}
theorem run2 {K : PySem.W.Frag} {r : R2} {g : Ob → Ob → Option Ob} (hg : Rd2 K r g) {σ : L2.St} {H : Hp} {Q : VK} (h : tP K (o2 g fa fb) σ H Q) : tOp r (tR K fa) (tR K fb) σ H Q := by
  obtain ⟨Z, ρ, fp, o, S, e, k⟩ := h
  obtain ⟨x, ex, e⟩ := bind_some e
  obtain ⟨y, ey, e⟩ := bind_some e
  exact ⟨Z, ρ, fp, x, S, ex, fun Z1 H1 v1 g1 r1 a1 => ⟨Z1, ρ, fp, y, S.still a1, ey, fun Z2 H2 v2 g2 r2 a2 =>
    hg Z2 H2 v1 v2 x y g1 g2 o Q (a2.zal (a1.zal S.za)) (r1.still a2) r2 e fun Z3 H3 v3 g3 r3 o3 a3 => k Z3 H3 v3 g3 r3 o3 ((a1.trans a2).trans a3)⟩⟩
theorem d_op2 {op : Operator} {r : R2} {g : Ob → Ob → Option Ob} (ho : OpR X (binaryOp op) r) (hg : Rd2 X.K r g) (ha : PR X a fa) (hb : PR X b fb) : DP X (.BinOp a op b pos) (o2 g fa fb) :=
  PE.imp (pe_op ho ha hb) fun _ _ _ h => run2 hg h
theorem d_cmp {op : CmpOp} {r : R2} {g : Ob → Ob → Option Ob} (ho : OpR X (compareOp op) r) (hg : Rd2 X.K r g) (ha : PR X a fa) (hb : PR X b fb) (hm : behindInMarks op b = false := by rfl) : DP X (.Compare a [op] [b] pos) (o2 g fa fb) :=
  PE.imp (pe_cmpR ho ha hb hm) fun _ _ _ h => run2 hg h
theorem d_un {op : UnaryOp} {r : V → Hp → VK → Prop} {g : Ob → Option Ob} (ho : UnR X (unaryOp op) r) (hg : Rd1 X.K r g) (ha : PR X a fa) : DP X (.UnaryOp op a pos) (o1 g fa) :=
  PE.imp (pe_un ho ha) fun σ H Q h => by
    obtain ⟨Z, ρ, fp, o, S, e, k⟩ := h
    obtain ⟨x, ex, e⟩ := bind_some e
    exact ⟨Z, ρ, fp, x, S, ex, fun Z1 H1 v1 g1 r1 a1 => hg Z1 H1 v1 x g1 o Q (a1.zal S.za) r1 e fun Z3 H3 v3 g3 r3 o3 a3 => k Z3 H3 v3 g3 r3 o3 (a1.trans a3)⟩
theorem d_ix {r : R2} {g : Ob → Ob → Option Ob} (ho : IxR X r) (hg : Rd2 X.K r g) (ha : PR X a fa) (hb : PR X b fb) (hs : PlainIx b := by intro _ _; rfl) : DP X (.Subscript a b pos) (o2 g fa fb) :=
  PE.imp (pe_ix ho ha hb hs) fun _ _ _ h => run2 hg h
end

/-! ## lists of values that are read -/
inductive ReL (K : PySem.W.Frag) (Z : Zs) (H : Hp) : List V → List Ob → Prop
  | nil : ReL K Z H [] []
  | cons {v : V} {vs : List V} {o : Ob} {os : List Ob} {g : List Addr} : RepO K Z H v o g → ReL K Z H vs os → ReL K Z H (v :: vs) (o :: os)
theorem ReL.still {K : PySem.W.Frag} {Z Z' : Zs} {H H' : Hp} {fq : List Addr} (a : Fr H [] Z H' fq Z') {vs : List V} {os : List Ob} (h : ReL K Z H vs os) : ReL K Z' H' vs os := by
  induction h with
  | nil => exact .nil
  | cons r _ ih => exact .cons (r.still a) ih
abbrev FL := Env → Option (List Ob)
def tRA (K : PySem.W.Frag) (f : FL) : TA := fun σ H Q => ∃ Z ρ fp os, Stt K Z H σ ρ fp ∧ f ρ = some os ∧ ∀ Z' H' vs, ReL K Z' H' vs os → Fr H [] Z H' [] Z' → Q vs H'
abbrev PRA (X : Cx) (es : List Expr) (f : FL) : Prop := PA X es (tRA X.K f)
theorem PA.imp {X : Cx} {e : List Expr} {t t' : TA} (h : PA X e t) (k : ∀ σ H Q, t' σ H Q → t σ H Q) : PA X e t' := ⟨fun pos pins s σ H Q I q => h.run pos pins s σ H Q I (k σ H Q q)⟩
def lNil : FL := fun _ => some []
def lCons (f : F1) (r : FL) : FL := fun ρ => (f ρ).bind fun o => (r ρ).bind fun os => some (o :: os)
section
variable {X : Cx} {pos p : Pos} {e : Expr} {es : List Expr} {f : F1} {fl : FL}
theorem ra_nil : PRA X [] lNil := PA.imp pa_nil fun σ H Q h => by
  obtain ⟨Z, ρ, fp, os, S, e, k⟩ := h
  cases e
  exact k Z H [] .nil .nil
theorem ra_cons (ha : PR X e f) (hr : PRA X es fl) (hs : starEach (e :: es) X.env = (false, eval e X.env) :: starEach es X.env := by rfl) : PRA X (e :: es) (lCons f fl) := PA.imp (pa_cons ha hr hs) fun σ H Q h => by
  obtain ⟨Z, ρ, fp, os, S, e, k⟩ := h
  obtain ⟨x, ex, e⟩ := bind_some e
  obtain ⟨ys, ey, e⟩ := bind_some e
  cases e
  exact ⟨Z, ρ, fp, x, S, ex, fun Z1 H1 v1 g1 r1 a1 => ⟨Z1, ρ, fp, ys, S.still a1, ey, fun Z2 H2 vs r2 a2 => k Z2 H2 (v1 :: vs) (.cons (r1.still a2) r2) (a1.trans a2)⟩⟩
def oL (g : List Ob → Option Ob) (fl : FL) : F1 := fun ρ => (fl ρ).bind g
def RdL (K : PySem.W.Frag) (r : List V → Hp → VK → Prop) (g : List Ob → Option Ob) : Prop := ∀ Z H vs os o' Q, Za Z H → ReL K Z H vs os → g os = some o' → Rst K Z H o' Q → r vs H Q
theorem runL {K : PySem.W.Frag} {r : List V → Hp → VK → Prop} {g : List Ob → Option Ob} (hg : RdL K r g) {σ : L2.St} {H : Hp} {Q : VK} (h : tP K (oL g fl) σ H Q) : tCB r (tRA K fl) σ H Q := by
  obtain ⟨Z, ρ, fp, o, S, e, k⟩ := h
  obtain ⟨x, ex, e⟩ := bind_some e
  exact ⟨Z, ρ, fp, x, S, ex, fun Z1 H1 vs r1 a1 => hg Z1 H1 vs x o Q (a1.zal S.za) r1 e fun Z3 H3 v3 g3 r3 o3 a3 => k Z3 H3 v3 g3 r3 o3 (a1.trans a3)⟩
theorem d_callB {id : String} {x : Str} {r : List V → Hp → VK → Prop} {g : List Ob → Option Ob} (hc : CallR X (.builtin id) r) (hgr : RdL X.K r g) (hg : Gl X x) (hm : X.mg x = none) (hv : bootBuiltins x = some (.builtin id)) (ha : PRA X (e :: es) fl)
    (hn : x ≠ "__name__" := by decide) (hdb : (x == ("__debug__" : Str)) = false := by decide) (he : starEach (e :: es) X.env = (false, eval e X.env) :: starEach es X.env := by rfl) (hpl : (backTo pos (starEach es X.env)).any (·.1) = false := by rfl) : DP X (.Call (.Name x p) (e :: es) [] pos) (oL g fl) :=
  PE.imp (pe_callB hc hg hm hv ha hn hdb he hpl) fun _ _ _ h => runL hgr h
theorem d_callTy {T : String} {x : Str} {r : List V → Hp → VK → Prop} {g : List Ob → Option Ob} (hc : CallR X (.type T) r) (hgr : RdL X.K r g) (hg : Gl X x) (hm : X.mg x = none) (hv : bootBuiltins x = some (.type T)) (ha : PRA X (e :: es) fl)
    (hn : x ≠ "__name__" := by decide) (hdb : (x == ("__debug__" : Str)) = false := by decide) (he : starEach (e :: es) X.env = (false, eval e X.env) :: starEach es X.env := by rfl) (hpl : (backTo pos (starEach es X.env)).any (·.1) = false := by rfl) : DP X (.Call (.Name x p) (e :: es) [] pos) (oL g fl) :=
  PE.imp (pe_callTy hc hg hm hv ha hn hdb he hpl) fun _ _ _ h => runL hgr h
end

/-! ## frozen argument lists, displays -/
/-- a fresh object, never to be written again -/
def fz : Ob → Option PyData
  | .fr d => some d
  | .lst l => some (.list l)
  | .ll l => some (.list (l.map .list))
  | .acc _ r => some (.list r.reverse)
  | _ => none
section
variable {K : PySem.W.Frag} {Z Z' Z0 : Zs} {H H' H0 : Hp} {g fp : List Addr}
theorem LLs.frz {bs : List Addr} {ls : List (List PyData)} (h : LLs K Z H bs ls) (zu : ∀ b, Z b → Z' b) (hz : ∀ b ∈ bs, Z' b) : DpZs K Z' H (bs.map V.ref) (ls.map .list) := by
  induction h with
  | nil => exact .nil
  | cons e d _ ih => exact .cons (.lst (hz _ List.mem_cons_self) e (d.keep zu (fun _ _ _ q => q) fun _ _ q => q)) (ih fun b m => hz b (List.mem_cons_of_mem _ m))
theorem RepO.frz {v : V} {o : Ob} {d : PyData} (h : RepO K Z H v o g) (e : fz o = some d) : DpZ K (fun b => Z b ∨ b ∈ g) H v d := by
  have zu : ∀ b, Z b → (Z b ∨ b ∈ g) := fun _ z => .inl z
  cases h with
  | fr h => cases e; exact h.keep zu (fun _ _ _ q => q) fun _ _ q => q
  | lst h t => cases e; exact .lst (.inr List.mem_cons_self) h (t.keep zu (fun _ _ _ q => q) fun _ _ q => q)
  | acc h t _ => cases e; exact .lst (.inr List.mem_cons_self) h (t.keep zu (fun _ _ _ q => q) fun _ _ q => q)
  | ll h t => cases e; exact .lst (.inr List.mem_cons_self) h (t.frz zu fun b m => .inr (List.mem_cons_of_mem _ m))
  | _ => cases e
/-- freezing what was made -/
theorem Fr.frz (a : Fr H fp Z H' (g ++ fp) Z') (ow : Own Z' H' (g ++ fp)) (h0 : Own Z H fp) : Fr H fp Z H' fp (fun b => Z' b ∨ b ∈ g) where
  same := a.same
  zup := fun b z => .inl (a.zup b z)
  znew := fun b o e z => by
    rcases z with z | m
    · exact a.znew b o e z
    · exact .inr (a.new b o e (List.mem_append_left _ m))
  new := fun b o e m => a.new b o e (List.mem_append_right _ m)
  zal := fun q b z => by
    rcases z with z | m
    · exact a.zal q b z
    · obtain ⟨o, e, _⟩ := ow.al b (List.mem_append_left _ m); exact ⟨o, e⟩
theorem Fr.frz0 (a : Fr H [] Z H' g Z') (ow : Own Z' H' g) : Fr H [] Z H' [] (fun b => Z' b ∨ b ∈ g) := by
  have a' : Fr H [] Z H' (g ++ []) Z' := by rw [List.append_nil]; exact a
  have ow' : Own Z' H' (g ++ []) := by rw [List.append_nil]; exact ow
  exact a'.frz ow' .nil
end
abbrev FD := Env → Option (List PyData)
def tFA (K : PySem.W.Frag) (f : FD) : TA := fun σ H Q => ∃ Z ρ fp os, Stt K Z H σ ρ fp ∧ f ρ = some os ∧ ∀ Z' H' vs, DpZs K Z' H' vs os → Fr H [] Z H' [] Z' → Q vs H'
abbrev DA (X : Cx) (es : List Expr) (f : FD) : Prop := PA X es (tFA X.K f)
def aNil : FD := fun _ => some []
def aCons (f : F1) (r : FD) : FD := fun ρ => (f ρ).bind fun o => (fz o).bind fun d => (r ρ).bind fun ds => some (d :: ds)
def aStar (f : F1) (r : FD) : FD := fun ρ => (f ρ).bind fun o => (asSeq o).bind fun xs => (r ρ).bind fun ds => some (xs ++ ds)
section
variable {X : Cx} {pos p : Pos} {e : Expr} {es : List Expr} {f : F1} {fd : FD}
theorem a_nil : DA X [] aNil := PA.imp pa_nil fun σ H Q h => by
  obtain ⟨Z, ρ, fp, os, S, e, k⟩ := h
  cases e
  exact k Z H [] .nil .nil
theorem a_cons (ha : DP X e f) (hr : DA X es fd) (hs : starEach (e :: es) X.env = (false, eval e X.env) :: starEach es X.env := by rfl) : DA X (e :: es) (aCons f fd) := PA.imp (pa_cons ha hr hs) fun σ H Q h => by
  obtain ⟨Z, ρ, fp, os, S, e, k⟩ := h
  obtain ⟨x, ex, e⟩ := bind_some e
  obtain ⟨d, ed, e⟩ := bind_some e
  obtain ⟨ys, ey, e⟩ := bind_some e
  cases e
  refine ⟨Z, ρ, fp, x, S, ex, fun Z1 H1 v1 g1 r1 o1 a1 => ?_⟩
  have a1' := a1.frz0 o1
  exact ⟨_, ρ, fp, ys, S.still a1', ey, fun Z2 H2 vs r2 a2 => k Z2 H2 (v1 :: vs) (.cons ((r1.frz ed).still a2) r2) (a1'.trans a2)⟩
theorem a_star (ha : PR X e f) (hr : DA X es fd) (hs : starEach (.Starred e p :: es) X.env = (true, eval e X.env) :: starEach es X.env := by rfl) : DA X (.Starred e p :: es) (aStar f fd) := PA.imp (StX.pa_star ha hr hs) fun σ H Q h => by
  obtain ⟨Z, ρ, fp, os, S, e, k⟩ := h
  obtain ⟨x, ex, e⟩ := bind_some e
  obtain ⟨d, ed, e⟩ := bind_some e
  obtain ⟨ys, ey, e⟩ := bind_some e
  cases e
  refine ⟨Z, ρ, fp, x, S, ex, fun Z1 H1 v1 g1 r1 a1 => ?_⟩
  obtain ⟨b, xs, rfl, hs, t⟩ := asSeq_rep r1 ed
  exact ⟨b, xs, rfl, hs.symm, Z1, ρ, fp, ys, S.still a1, ey, fun Z2 H2 vs r2 a2 => k Z2 H2 (xs ++ vs) ((t.still a2).append r2) (a1.trans a2)⟩
def short (l : List PyData) : Bool := Nat.ble l.length 16777216
theorem short_ok {l : List PyData} (h : short l = true) : l.length ≤ sizeLine := by
  rw [sizeLine_eq]; exact Nat.le_of_ble_eq_true h
def dTup (f : FD) : F1 := fun ρ => (f ρ).bind fun l => if short l then some (.fr (.tuple l)) else none
def dLst (f : FD) : F1 := fun ρ => (f ρ).bind fun l => if short l then some (.lst l) else none
theorem d_tup {x1} (h : DA X es fd) : DP X (.Tuple es x1 pos) (dTup fd) := PE.imp (pe_tup h) fun σ H Q h => by
  obtain ⟨Z, ρ, fp, o, S, e, k⟩ := h
  obtain ⟨l, el, e⟩ := bind_some e
  by_cases hl : short l = true
  · rw [if_pos hl] at e
    cases e
    exact ⟨Z, ρ, fp, l, S, el, fun Z1 H1 vs r1 a1 => ⟨by rw [r1.length]; exact short_ok hl, Rst.tup (fun Z3 H3 v3 g3 r3 o3 a3 => k Z3 H3 v3 g3 r3 o3 (a1.trans a3)) r1⟩⟩
  · rw [if_neg hl] at e; cases e
theorem d_lst (h : DA X es fd) : DP X (.List es pos) (dLst fd) := PE.imp (pe_lst h) fun σ H Q h => by
  obtain ⟨Z, ρ, fp, o, S, e, k⟩ := h
  obtain ⟨l, el, e⟩ := bind_some e
  by_cases hl : short l = true
  · rw [if_pos hl] at e
    cases e
    exact ⟨Z, ρ, fp, l, S, el, fun Z1 H1 vs r1 a1 => ⟨by rw [r1.length]; exact short_ok hl, Rst.lst (fun Z3 H3 v3 g3 r3 o3 a3 => k Z3 H3 v3 g3 r3 o3 (a1.trans a3)) r1 (a1.zal S.za)⟩⟩
  · rw [if_neg hl] at e; cases e
end

/-! ## tests -/
abbrev FB := Env → Option Bool
def tT (K : PySem.W.Frag) (f : FB) : TT := fun σ H Q => ∃ Z ρ fp b, Stt K Z H σ ρ fp ∧ f ρ = some b ∧ ∀ Z' H', Fr H [] Z H' [] Z' → Q b H'
abbrev TD (X : Cx) (e : Expr) (f : FB) : Prop := PT X e (tT X.K f)
abbrev TW (X : Cx) (e : Expr) (f : FB) : Prop := PW X e (tT X.K f)
theorem PT.imp {X : Cx} {e : Expr} {t t' : TT} (h : PT X e t) (k : ∀ σ H Q, t' σ H Q → t σ H Q) : PT X e t' := ⟨fun pins s σ H Q I q => h.run pins s σ H Q I (k σ H Q q)⟩
theorem PW.imp {X : Cx} {e : Expr} {t t' : TT} (h : PW X e t) (k : ∀ σ H Q, t' σ H Q → t σ H Q) : PW X e t' := ⟨fun whole pins s σ H Q I q => h.run whole pins s σ H Q I (k σ H Q q)⟩
def bO (f : F1) : FB := fun ρ => (f ρ).bind asB
def bNot (f : FB) : FB := fun ρ => (f ρ).map (!·)
def bAnd (f g : FB) : FB := fun ρ => (f ρ).bind fun b => if b then g ρ else some false
def bOr (f g : FB) : FB := fun ρ => (f ρ).bind fun b => if b then some true else g ρ
/-- a truth value out of a test -/
def oB (f : FB) : F1 := fun ρ => (f ρ).map fun b => .fr (.bool b)
def oIf (c : FB) (f g : F1) : F1 := fun ρ => (c ρ).bind fun b => if b then f ρ else g ρ
section
variable {X : Cx} {pos : Pos} {a b c : Expr} {rest : List Expr} {fa fb : F1} {ta tb : FB}
theorem tTest_of {K : PySem.W.Frag} {t : TE} {f : F1} {σ : L2.St} {H : Hp} {Q : Bool → Hp → Prop} (ht : ∀ Q : VK, tP K f σ H Q → t σ H Q) (h : tT K (bO f) σ H Q) : tTest t σ H Q := by
  obtain ⟨Z, ρ, fp, o, S, e, k⟩ := h
  obtain ⟨x, ex, e⟩ := bind_some e
  exact ht _ ⟨Z, ρ, fp, x, S, ex, fun Z1 H1 v1 g1 r1 o1 a1 => ⟨o, asB_rep r1 e, k Z1 H1 (a1.less fun _ m => (nomatch m))⟩⟩
theorem t_cmp {op : CmpOp} {r : R2} {g : Ob → Ob → Option Ob} (ho : OpR X (compareOp op) r) (hg : Rd2 X.K r g) (ha : PR X a fa) (hb : PR X b fb) (hm : behindInMarks op b = false := by rfl) : TD X (.Compare a [op] [b] pos) (bO (o2 g fa fb)) :=
  PT.imp (pt_cmpR ho ha hb hm) fun _ _ _ h => tTest_of (fun _ q => run2 hg q) h
theorem t_val {e : Expr} {f : F1} (h : DP X e f) (he : ∀ whole, isTrue e X.env whole = (do let v ← whole; standAt e.pos; holding [v] (truthy v)) := by intro _; rfl) : TD X e (bO f) :=
  PT.imp (pt_val h he) fun _ _ _ h => tTest_of (fun _ q => q) h
theorem t_not (h : TD X a ta) : TD X (.UnaryOp .Not a pos) (bNot ta) := PT.imp (pt_not h) fun σ H Q h => by
  obtain ⟨Z, ρ, fp, o, S, e, k⟩ := h
  obtain ⟨b, eb, rfl⟩ := Option.map_eq_some_iff.mp e
  exact ⟨Z, ρ, fp, b, S, eb, k⟩
theorem w_and1 (h : TD X a ta) : TW X (.BoolOp .And [a] pos) ta := pw_and1 h
theorem w_or1 (h : TD X a ta) : TW X (.BoolOp .Or [a] pos) ta := pw_or1 h
theorem w_and (h : TD X a ta) (h2 : TW X (.BoolOp .And (b :: rest) pos) tb) : TW X (.BoolOp .And (a :: b :: rest) pos) (bAnd ta tb) := PW.imp (pw_and h h2) fun σ H Q h => by
  obtain ⟨Z, ρ, fp, o, S, e, k⟩ := h
  obtain ⟨b, eb, e⟩ := bind_some e
  refine ⟨Z, ρ, fp, b, S, eb, fun Z1 H1 a1 => ?_⟩
  cases b with
  | true =>
    rw [if_pos rfl] at e ⊢
    exact ⟨Z1, ρ, fp, o, S.still a1, e, fun Z2 H2 a2 => k Z2 H2 (a1.trans a2)⟩
  | false =>
    rw [if_neg Bool.false_ne_true] at e ⊢
    cases e
    exact k Z1 H1 a1
theorem w_or (h : TD X a ta) (h2 : TW X (.BoolOp .Or (b :: rest) pos) tb) : TW X (.BoolOp .Or (a :: b :: rest) pos) (bOr ta tb) := PW.imp (pw_or h h2) fun σ H Q h => by
  obtain ⟨Z, ρ, fp, o, S, e, k⟩ := h
  obtain ⟨b, eb, e⟩ := bind_some e
  refine ⟨Z, ρ, fp, b, S, eb, fun Z1 H1 a1 => ?_⟩
  cases b with
  | true =>
    rw [if_pos rfl] at e ⊢
    cases e
    exact k Z1 H1 a1
  | false =>
    rw [if_neg Bool.false_ne_true] at e ⊢
    exact ⟨Z1, ρ, fp, o, S.still a1, e, fun Z2 H2 a2 => k Z2 H2 (a1.trans a2)⟩
theorem t_w {e : Expr} (h : TW X e ta) : TD X e ta := h.pt
/-- truth values -/
theorem d_not (h : DP X a fa) : DP X (.UnaryOp .Not a pos) (oB (bNot (bO fa))) := PE.imp (pe_not h) fun σ H Q h => by
  obtain ⟨Z, ρ, fp, o, S, e, k⟩ := h
  obtain ⟨b, eb, rfl⟩ := Option.map_eq_some_iff.mp e
  obtain ⟨b', eb', rfl⟩ := Option.map_eq_some_iff.mp (show Option.map (!·) (bO fa ρ) = some b from eb)
  obtain ⟨x, ex, e⟩ := bind_some eb'
  exact ⟨Z, ρ, fp, x, S, ex, fun Z1 H1 v1 g1 r1 o1 a1 => ⟨b', asB_rep r1 e, k Z1 H1 _ [] (.fr (.bl _)) .nil (a1.less fun _ m => (nomatch m))⟩⟩
def oAnd (f g : F1) : F1 := fun ρ => (f ρ).bind fun x => (asB x).bind fun b => if b then g ρ else some (.fr (.bool false))
def oOr (f g : F1) : F1 := fun ρ => (f ρ).bind fun x => (asB x).bind fun b => if b then some (.fr (.bool true)) else g ρ
theorem d_one {op} (h : DP X a fa) : DP X (.BoolOp op [a] pos) fa := pe_one h
theorem d_and (h : DP X a fa) (h2 : DP X (.BoolOp .And (b :: rest) pos) fb) : DP X (.BoolOp .And (a :: b :: rest) pos) (oAnd fa fb) := PE.imp (pe_and h h2) fun σ H Q h => by
  obtain ⟨Z, ρ, fp, o, S, e, k⟩ := h
  obtain ⟨x, ex, e⟩ := bind_some e
  obtain ⟨b, eb, e⟩ := bind_some e
  refine ⟨Z, ρ, fp, x, S, ex, fun Z1 H1 v1 g1 r1 o1 a1 => ⟨b, asB_rep r1 eb, ?_⟩⟩
  have a1' : Fr H [] Z H1 [] Z1 := a1.less fun _ m => (nomatch m)
  cases b with
  | true =>
    rw [if_pos rfl] at e ⊢
    exact ⟨Z1, ρ, fp, o, S.still a1', e, fun Z2 H2 v g r o2 a2 => k Z2 H2 v g r o2 (a1'.trans a2)⟩
  | false =>
    rw [if_neg Bool.false_ne_true] at e ⊢
    cases e
    exact k Z1 H1 _ [] (.fr (.bl _)) .nil a1'
theorem d_or (h : DP X a fa) (h2 : DP X (.BoolOp .Or (b :: rest) pos) fb) : DP X (.BoolOp .Or (a :: b :: rest) pos) (oOr fa fb) := PE.imp (pe_or h h2) fun σ H Q h => by
  obtain ⟨Z, ρ, fp, o, S, e, k⟩ := h
  obtain ⟨x, ex, e⟩ := bind_some e
  obtain ⟨b, eb, e⟩ := bind_some e
  refine ⟨Z, ρ, fp, x, S, ex, fun Z1 H1 v1 g1 r1 o1 a1 => ⟨b, asB_rep r1 eb, ?_⟩⟩
  have a1' : Fr H [] Z H1 [] Z1 := a1.less fun _ m => (nomatch m)
  cases b with
  | true =>
    rw [if_pos rfl] at e ⊢
    cases e
    exact k Z1 H1 _ [] (.fr (.bl _)) .nil a1'
  | false =>
    rw [if_neg Bool.false_ne_true] at e ⊢
    exact ⟨Z1, ρ, fp, o, S.still a1', e, fun Z2 H2 v g r o2 a2 => k Z2 H2 v g r o2 (a1'.trans a2)⟩
theorem d_if (hc : TD X c ta) (ha : DP X a fa) (hb : DP X b fb) : DP X (.IfExp c a b pos) (oIf ta fa fb) := PE.imp (pe_ifExp hc ha hb) fun σ H Q h => by
  obtain ⟨Z, ρ, fp, o, S, e, k⟩ := h
  obtain ⟨b, eb, e⟩ := bind_some e
  refine ⟨Z, ρ, fp, b, S, eb, fun Z1 H1 a1 => ?_⟩
  cases b with
  | true =>
    rw [if_pos rfl] at e ⊢
    exact ⟨Z1, ρ, fp, o, S.still a1, e, fun Z2 H2 v g r o2 a2 => k Z2 H2 v g r o2 (a1.trans a2)⟩
  | false =>
    rw [if_neg Bool.false_ne_true] at e ⊢
    exact ⟨Z1, ρ, fp, o, S.still a1, e, fun Z2 H2 v g r o2 a2 => k Z2 H2 v g r o2 (a1.trans a2)⟩
/-- a op b op' c of values that are truth values between -/
def oChain (g g' : Ob → Ob → Option Ob) (fa fb fc : F1) : F1 := fun ρ => (fa ρ).bind fun x => (fb ρ).bind fun y => (g x y).bind fun z => (asB z).bind fun b => if b then (fc ρ).bind fun w => g' y w else some (.fr (.bool false))
theorem runC {K : PySem.W.Frag} {r r' : R2} {g g' : Ob → Ob → Option Ob} {fc : F1} (hg : Rd2 K r g) (hg' : Rd2 K r' g') {σ : L2.St} {H : Hp} {Q : VK} (h : tP K (oChain g g' fa fb fc) σ H Q) : tChain r r' (tR K fa) (tR K fb) (tR K fc) σ H Q := by
  obtain ⟨Z, ρ, fp, o, S, e, k⟩ := h
  obtain ⟨x, ex, e⟩ := bind_some e
  obtain ⟨y, ey, e⟩ := bind_some e
  obtain ⟨z, ez, e⟩ := bind_some e
  obtain ⟨b, eb, e⟩ := bind_some e
  refine ⟨Z, ρ, fp, x, S, ex, fun Z1 H1 v1 g1 r1 a1 => ⟨Z1, ρ, fp, y, S.still a1, ey, fun Z2 H2 v2 g2 r2 a2 => hg Z2 H2 v1 v2 x y g1 g2 z _ (a2.zal (a1.zal S.za)) (r1.still a2) r2 ez fun Z3 H3 v3 g3 r3 o3 a3 => ⟨b, asB_rep r3 eb, ?_⟩⟩⟩
  have a3' : Fr H2 [] Z2 H3 [] Z3 := a3.less fun _ m => (nomatch m)
  have a := (a1.trans a2).trans a3'
  cases b with
  | true =>
    rw [if_pos rfl] at e ⊢
    obtain ⟨w, ew, e⟩ := bind_some e
    exact ⟨Z3, ρ, fp, w, S.still a, ew, fun Z4 H4 v4 g4 r4 a4 => hg' Z4 H4 v2 v4 y w g2 g4 o Q (a4.zal (a.zal S.za)) ((r2.still a3').still a4) r4 e fun Z5 H5 v5 g5 r5 o5 a5 => k Z5 H5 v5 g5 r5 o5 ((a.trans a4).trans a5)⟩
  | false =>
    rw [if_neg Bool.false_ne_true] at e ⊢
    cases e
    exact k Z3 H3 _ [] (.fr (.bl _)) .nil a
theorem d_chain {op op' : CmpOp} {r r' : R2} {g g' : Ob → Ob → Option Ob} {fc : F1} (ho : OpR X (compareOp op) r) (hg : Rd2 X.K r g) (ho' : OpR X (compareOp op') r') (hg' : Rd2 X.K r' g') (ha : PR X a fa) (hb : PR X b fb) (hc : PR X c fc) (hm : behindInMarks op' c = false := by rfl) :
    DP X (.Compare a [op, op'] [b, c] pos) (oChain g g' fa fb fc) := PE.imp (pe_chain ho ho' ha hb hc hm) fun _ _ _ h => runC hg hg' h
theorem t_chain {op op' : CmpOp} {r r' : R2} {g g' : Ob → Ob → Option Ob} {fc : F1} (ho : OpR X (compareOp op) r) (hg : Rd2 X.K r g) (ho' : OpR X (compareOp op') r') (hg' : Rd2 X.K r' g') (ha : PR X a fa) (hb : PR X b fb) (hc : PR X c fc) (hm : behindInMarks op' c = false := by rfl) :
    TD X (.Compare a [op, op'] [b, c] pos) (bO (oChain g g' fa fb fc)) := PT.imp (pt_chain ho ho' ha hb hc hm) fun _ _ _ h => tTest_of (fun _ q => runC hg hg' q) h
end
end DL

namespace DL
open PySem PySem.Spec PyProof.Rows L2

/-! ## plain looks at data -/
mutual
/-- nested at most so deep -/
def shal : Nat → PyData → Bool
  | n, .list l => match n with
    | 0 => false
    | m + 1 => shalAll m l
  | n, .tuple l => match n with
    | 0 => false
    | m + 1 => shalAll m l
  | _, .dict _ => false
  | _, _ => true
def shalAll : Nat → List PyData → Bool
  | _, [] => true
  | n, d :: ds => shal n d && shalAll n ds
end
mutual
theorem shal_depth : ∀ (d : PyData) (n : Nat), shal n d = true → d.depth ≤ n
  | .none, _, _ => by simp [PyData.depth]
  | .bool _, _, _ => by simp [PyData.depth]
  | .int _, _, _ => by simp [PyData.depth]
  | .str _, _, _ => by simp [PyData.depth]
  | .dict _, _, h => by simp [shal] at h
  | .list l, 0, h => by simp [shal] at h
  | .tuple l, 0, h => by simp [shal] at h
  | .list l, n + 1, h => by
    have := shalAll_depth l n (by simpa [shal] using h)
    simp only [PyData.depth]; omega
  | .tuple l, n + 1, h => by
    have := shalAll_depth l n (by simpa [shal] using h)
    simp only [PyData.depth]; omega
theorem shalAll_depth : ∀ (ds : List PyData) (n : Nat), shalAll n ds = true → PyData.depthAll ds ≤ n
  | [], _, _ => by simp [PyData.depthAll]
  | d :: ds, n, h => by
    have h : shal n d = true ∧ shalAll n ds = true := by simpa [shalAll] using h
    have h1 := shal_depth d n h.1
    have h2 := shalAll_depth ds n h.2
    simp only [PyData.depthAll]; omega
end
section
variable {K : PySem.W.Frag} {Z : Zs} {H : Hp}
mutual
theorem Dp.plain : ∀ {d : PyData} {v : V}, Dp K H v d → d.plain = true
  | .none, _, _ => by simp [PyData.plain]
  | .bool _, _, _ => by simp [PyData.plain]
  | .int _, _, _ => by simp [PyData.plain]
  | .str _, _, _ => by simp [PyData.plain]
  | .list ds, _, h => by
    cases h with
    | lst s t => simp [PyData.plain, DpAll.plain t]
  | .tuple ds, _, h => by
    cases h with
    | tup s t => simp [PyData.plain, DpAll.plain t]
  | .dict _, _, h => by cases h
theorem DpAll.plain : ∀ {ds : List PyData} {vs : List V}, DpAll K H vs ds → PyData.plainAll ds = true
  | [], _, _ => by simp [PyData.plainAll]
  | d :: ds, _, h => by
    cases h with
    | cons h t => simp [PyData.plainAll, Dp.plain h, DpAll.plain t]
end
end

/-! ## arithmetic -/
def small64 (i : Int) : Bool := decide (-(2 ^ 64) < i) && decide (i < 2 ^ 64)
def addI (x y : Ob) : Option Ob := (asI x).bind fun i => (asI y).bind fun j => some (.fr (.int (i + j)))
def subI (x y : Ob) : Option Ob := (asI x).bind fun i => (asI y).bind fun j => some (.fr (.int (i - j)))
def mulI (x y : Ob) : Option Ob := (asI x).bind fun i => (asI y).bind fun j => if small64 i || small64 j then some (.fr (.int (i * j))) else none
def divI (x y : Ob) : Option Ob := (asI x).bind fun i => (asI y).bind fun j => if decide (0 < j) && decide (j < 1073741824) then some (.fr (.int (i / j))) else none
def modI (x y : Ob) : Option Ob := (asI x).bind fun i => (asI y).bind fun j => if decide (0 < j) then some (.fr (.int (i % j))) else none
def negI (x : Ob) : Option Ob := (asI x).bind fun i => some (.fr (.int (-i)))
def shlI (x y : Ob) : Option Ob := (asI x).bind fun i => (asI y).bind fun j => if decide (0 ≤ j) && decide (j ≤ 1000000) && decide (i.natAbs < 2 ^ 64) then some (.fr (.int (i * 2 ^ j.toNat))) else none
def powI (x y : Ob) : Option Ob := (asI x).bind fun i => (asI y).bind fun j => if decide (0 ≤ j) && decide (j ≤ 1000000) && decide (i.natAbs < 2 ^ 64) then some (.fr (.int (i ^ j.toNat))) else none
section
variable {K : PySem.W.Frag}
theorem rd_add : Rd2 K (rI0 fun i j => .int (i + j)) addI := fun Z H v u o p h h' o' Q za r1 r2 e k => by
  obtain ⟨i, ei, e⟩ := bind_some e
  obtain ⟨j, ej, e⟩ := bind_some e
  cases e
  exact ⟨i, j, asI_rep r1 ei, asI_rep r2 ej, k.flat (.int _)⟩
theorem rd_sub : Rd2 K (rI0 fun i j => .int (i - j)) subI := fun Z H v u o p h h' o' Q za r1 r2 e k => by
  obtain ⟨i, ei, e⟩ := bind_some e
  obtain ⟨j, ej, e⟩ := bind_some e
  cases e
  exact ⟨i, j, asI_rep r1 ei, asI_rep r2 ej, k.flat (.int _)⟩
theorem ite_ob {c : Bool} {o o' : Ob} (h : (if c = true then some o else none) = some o') : c = true ∧ o = o' := by
  cases c with
  | true => exact ⟨rfl, Option.some.inj h⟩
  | false => cases h
theorem rd_mul : Rd2 K (rI CMul fun i j => .int (i * j)) mulI := fun Z H v u o p h h' o' Q za r1 r2 e k => by
  obtain ⟨i, ei, e⟩ := bind_some e
  obtain ⟨j, ej, e⟩ := bind_some e
  obtain ⟨c, rfl⟩ := ite_ob e
  refine ⟨i, j, asI_rep r1 ei, asI_rep r2 ej, ?_, k.flat (.int _)⟩
  rcases Bool.or_eq_true_iff.mp c with c | c
  · obtain ⟨a, b⟩ := Bool.and_eq_true_iff.mp c
    exact .inl ⟨of_decide_eq_true a, of_decide_eq_true b⟩
  · obtain ⟨a, b⟩ := Bool.and_eq_true_iff.mp c
    exact .inr ⟨of_decide_eq_true a, of_decide_eq_true b⟩
theorem rd_div : Rd2 K (rI CDiv fun i j => .int (i / j)) divI := fun Z H v u o p h h' o' Q za r1 r2 e k => by
  obtain ⟨i, ei, e⟩ := bind_some e
  obtain ⟨j, ej, e⟩ := bind_some e
  obtain ⟨c, rfl⟩ := ite_ob e
  obtain ⟨a, b⟩ := Bool.and_eq_true_iff.mp c
  exact ⟨i, j, asI_rep r1 ei, asI_rep r2 ej, ⟨of_decide_eq_true a, of_decide_eq_true b⟩, k.flat (.int _)⟩
theorem rd_mod : Rd2 K (rI (fun _ j => 0 < j) fun i j => .int (i % j)) modI := fun Z H v u o p h h' o' Q za r1 r2 e k => by
  obtain ⟨i, ei, e⟩ := bind_some e
  obtain ⟨j, ej, e⟩ := bind_some e
  obtain ⟨c, rfl⟩ := ite_ob e
  exact ⟨i, j, asI_rep r1 ei, asI_rep r2 ej, of_decide_eq_true c, k.flat (.int _)⟩
theorem rd_neg : Rd1 K (rU fun i => .int (-i)) negI := fun Z H v o h o' Q za r1 e k => by
  obtain ⟨i, ei, e⟩ := bind_some e
  cases e
  exact ⟨i, asI_rep r1 ei, k.flat (.int _)⟩
theorem cpow_of {i j : Int} (c : (decide (0 ≤ j) && decide (j ≤ 1000000) && decide (i.natAbs < 2 ^ 64)) = true) : CPow i j := by
  obtain ⟨a, b⟩ := Bool.and_eq_true_iff.mp c
  obtain ⟨a, c⟩ := Bool.and_eq_true_iff.mp a
  exact ⟨of_decide_eq_true a, of_decide_eq_true c, of_decide_eq_true b⟩
theorem rd_shl : Rd2 K (rI CPow fun i j => .int (i * 2 ^ j.toNat)) shlI := fun Z H v u o p h h' o' Q za r1 r2 e k => by
  obtain ⟨i, ei, e⟩ := bind_some e
  obtain ⟨j, ej, e⟩ := bind_some e
  obtain ⟨c, rfl⟩ := ite_ob e
  exact ⟨i, j, asI_rep r1 ei, asI_rep r2 ej, cpow_of c, k.flat (.int _)⟩
theorem rd_pow : Rd2 K (rI CPow fun i j => .int (i ^ j.toNat)) powI := fun Z H v u o p h h' o' Q za r1 r2 e k => by
  obtain ⟨i, ei, e⟩ := bind_some e
  obtain ⟨j, ej, e⟩ := bind_some e
  obtain ⟨c, rfl⟩ := ite_ob e
  exact ⟨i, j, asI_rep r1 ei, asI_rep r2 ej, cpow_of c, k.flat (.int _)⟩
end

/-! ## lists and tuples joined -/
def catT (x y : Ob) : Option Ob := (asTup x).bind fun l => (asTup y).bind fun m => if short (l ++ m) then some (.fr (.tuple (l ++ m))) else none
def catL (x y : Ob) : Option Ob := (asLst x).bind fun l => (asLst y).bind fun m => if short (l ++ m) then some (.lst (l ++ m)) else none
def repL (x y : Ob) : Option Ob := (asLst x).bind fun l => (asI y).bind fun j => if decide (-(2 ^ 63) ≤ j) && (decide (j < 2 ^ 63) && Nat.ble (l.length * j.toNat) 16777216) then some (.lst (List.replicate j.toNat l).flatten) else none
/-- + : whole numbers, tuples, lists -/
def addO (x y : Ob) : Option Ob := match addI x y with
  | some o => some o
  | none => match catT x y with
    | some o => some o
    | none => catL x y
def mulO (x y : Ob) : Option Ob := match mulI x y with
  | some o => some o
  | none => repL x y
section
variable {K : PySem.W.Frag} {Z : Zs} {H : Hp}
theorem Rd2.or {r r' : R2} {g g' : Ob → Ob → Option Ob} (h : Rd2 K r g) (h' : Rd2 K r' g') : Rd2 K (fun x y H Q => r x y H Q ∨ r' x y H Q) (fun x y => match g x y with
    | some o => some o
    | none => g' x y) := fun Z H v u o p a a' o' Q za r1 r2 e k => by
  have e : (match g o p with
    | some o => some o
    | none => g' o p) = some o' := e
  cases q : g o p with
  | some z => rw [q] at e; cases e; exact .inl (h Z H v u o p a a' _ Q za r1 r2 q k)
  | none => rw [q] at e; exact .inr (h' Z H v u o p a a' _ Q za r1 r2 e k)
theorem DpZs.nil_iff {vs : List V} {l : List PyData} (h : DpZs K Z H vs l) : vs = [] ↔ l = [] := by
  cases h with
  | nil => simp
  | cons _ _ => simp
theorem rd_catT : Rd2 K (rCatA K) catT := fun Z H v u o p h h' o' Q za r1 r2 e k => by
  obtain ⟨l, el, e⟩ := bind_some e
  obtain ⟨m, em, e⟩ := bind_some e
  obtain ⟨c, rfl⟩ := ite_ob e
  obtain ⟨d1, e1⟩ := asD_rep r1 (show asD o = some (.tuple l) by
    cases o with
    | fr d => cases d <;> first | (cases el; rfl) | cases el
    | _ => cases el)
  obtain ⟨d2, e2⟩ := asD_rep r2 (show asD p = some (.tuple m) by
    cases p with
    | fr d => cases d <;> first | (cases em; rfl) | cases em
    | _ => cases em)
  obtain ⟨a, vs, rfl, s1, t1⟩ := asTup_rep r1 el
  obtain ⟨b, ws, rfl, s2, t2⟩ := asTup_rep r2 em
  refine ⟨a, b, vs, ws, rfl, rfl, s1, s2, ?_, fun h => ?_, fun h h2 => ?_, fun _ _ => k.tup (t1.append t2)⟩
  · have := short_ok c
    rw [t1.length, t2.length]
    rw [List.length_append] at this
    exact this
  · have h := t1.nil_iff.mp h
    subst h
    exact k.flat d2
  · have h := t2.nil_iff.mp h2
    subst h
    rw [List.append_nil] at k
    exact k.flat d1
theorem rd_catL : Rd2 K rCat catL := fun Z H v u o p h h' o' Q za r1 r2 e k => by
  obtain ⟨l, el, e⟩ := bind_some e
  obtain ⟨m, em, e⟩ := bind_some e
  obtain ⟨c, rfl⟩ := ite_ob e
  obtain ⟨a, vs, rfl, s1, t1⟩ := asLst_rep r1 el
  obtain ⟨b, ws, rfl, s2, t2⟩ := asLst_rep r2 em
  refine ⟨a, b, vs, ws, rfl, rfl, s1, s2, ?_, k.lst (t1.append t2) za⟩
  have := short_ok c
  rw [t1.length, t2.length]
  rw [List.length_append] at this
  exact this
theorem DpZs.reps {vs : List V} {l : List PyData} (h : DpZs K Z H vs l) : ∀ n : Nat, DpZs K Z H (List.replicate n vs).flatten (List.replicate n l).flatten
  | 0 => .nil
  | n + 1 => by
    rw [List.replicate_succ, List.replicate_succ, List.flatten_cons, List.flatten_cons]
    exact h.append (DpZs.reps h n)
theorem rd_repL : Rd2 K rRep repL := fun Z H v u o p h h' o' Q za r1 r2 e k => by
  obtain ⟨l, el, e⟩ := bind_some e
  obtain ⟨j, ej, e⟩ := bind_some e
  obtain ⟨c, rfl⟩ := ite_ob e
  obtain ⟨c1, c⟩ := Bool.and_eq_true_iff.mp c
  obtain ⟨c2, c3⟩ := Bool.and_eq_true_iff.mp c
  obtain ⟨a, vs, rfl, s1, t1⟩ := asLst_rep r1 el
  refine ⟨a, j, vs, rfl, asI_rep r2 ej, s1, of_decide_eq_true c1, of_decide_eq_true c2, ?_, k.lst (t1.reps _) za⟩
  rw [t1.length, sizeLine_eq]
  exact Nat.le_of_ble_eq_true c3
end
section
variable {X : Cx}
abbrev rAddO (K : PySem.W.Frag) : R2 := fun x y H Q => rI0 (fun i j => .int (i + j)) x y H Q ∨ (rCatA K x y H Q ∨ rCat x y H Q)
theorem op_addO : OpR X (binaryOp .Add) (rAddO X.K) := op_add.or (op_catA.or op_cat)
theorem rd_addO : Rd2 X.K (rAddO X.K) addO := rd_add.or (rd_catT.or rd_catL)
abbrev rMulO : R2 := fun x y H Q => rI CMul (fun i j => .int (i * j)) x y H Q ∨ rRep x y H Q
theorem op_mulO : OpR X (binaryOp .Mult) rMulO := op_mul.or op_rep
theorem rd_mulO : Rd2 X.K rMulO mulO := rd_mul.or rd_repL
end

/-! ## comparing -/
def fB (b : Bool) : Ob := .fr (.bool b)
def eqO (x y : Ob) : Option Ob := (asData x).bind fun d => (asData y).bind fun e => if shal 9 d || shal 9 e then some (fB (PyData.eqv d e)) else none
def neO (x y : Ob) : Option Ob := (asData x).bind fun d => (asData y).bind fun e => if shal 9 d || shal 9 e then some (fB (!PyData.eqv d e)) else none
def notNone : PyData → Bool
  | .none => false
  | _ => true
/-- data that can be compared -/
def cmpOk (d e : PyData) : Bool := PySem.W.alike d e && (shal 9 d && notNone d)
def ltO (x y : Ob) : Option Ob := (asData x).bind fun d => (asData y).bind fun e => if cmpOk d e then some (fB (PySem.W.dataLt d e)) else none
def gtO (x y : Ob) : Option Ob := (asData x).bind fun d => (asData y).bind fun e => if cmpOk d e then some (fB (PySem.W.dataLt e d)) else none
def leO (x y : Ob) : Option Ob := (asData x).bind fun d => (asData y).bind fun e => if cmpOk d e then some (fB (!PySem.W.dataLt e d)) else none
def geO (x y : Ob) : Option Ob := (asData x).bind fun d => (asData y).bind fun e => if cmpOk d e then some (fB (!PySem.W.dataLt d e)) else none
def ltI (x y : Ob) : Option Ob := (asI x).bind fun i => (asI y).bind fun j => some (fB (decide (i < j)))
def gtI (x y : Ob) : Option Ob := (asI x).bind fun i => (asI y).bind fun j => some (fB (decide (j < i)))
def leI (x y : Ob) : Option Ob := (asI x).bind fun i => (asI y).bind fun j => some (fB (decide (i ≤ j)))
def geI (x y : Ob) : Option Ob := (asI x).bind fun i => (asI y).bind fun j => some (fB (decide (j ≤ i)))
def ltA (x y : Ob) : Option Ob := match ltI x y with
  | some o => some o
  | none => ltO x y
def gtA (x y : Ob) : Option Ob := match gtI x y with
  | some o => some o
  | none => gtO x y
def leA (x y : Ob) : Option Ob := match leI x y with
  | some o => some o
  | none => leO x y
def geA (x y : Ob) : Option Ob := match geI x y with
  | some o => some o
  | none => geO x y
abbrev rC2 (f : Value → Value → Sem Value) (X : Cx) (g : PyData → PyData → Option Bool) : R2 := fun x y H Q => ∃ d e b, Dp X.K H x d ∧ Dp X.K H y e ∧ g d e = some b ∧ Q (.bl b) H
section
variable {X : Cx} {K : PySem.W.Frag} {Z : Zs} {H : Hp}
def eqG (d e : PyData) : Option Bool := if shal 9 d || shal 9 e then some (PyData.eqv d e) else none
def neG (d e : PyData) : Option Bool := if shal 9 d || shal 9 e then some (!PyData.eqv d e) else none
theorem min_of {d e : PyData} (h : (shal 9 d || shal 9 e) = true) : min d.depth e.depth ≤ 9 := by
  rcases Bool.or_eq_true_iff.mp h with h | h
  · exact Nat.le_trans (Nat.min_le_left _ _) (shal_depth d 9 h)
  · exact Nat.le_trans (Nat.min_le_right _ _) (shal_depth e 9 h)
theorem op_eqG (hu : X.A.units + 64 < cLine) : OpR X (compareOp .Eq) (rC2 (compareOp .Eq) X eqG) := by
  intro pins s σ H x y v u Q I rx ry h
  obtain ⟨d, e, b, hd, he, hg, q⟩ := h
  obtain ⟨as, r1⟩ := Dp.reads I d x v hd rx
  obtain ⟨bs, r2⟩ := Dp.reads I e y u he ry
  have c : (shal 9 d || shal 9 e) = true := by
    unfold eqG at hg
    split at hg
    · assumption
    · cases hg
  have eb : b = PyData.eqv d e := by
    unfold eqG at hg
    rw [if_pos c] at hg
    exact (Option.some.inj hg).symm
  have hm := min_of c
  subst eb
  exact PySem.SeqAt.eq_plain r1 r2 (Dp.plain hd) (Dp.plain he) (by omega) ⟨.bl _, H, I, rfl, q⟩
theorem op_neG (hu : X.A.units + 64 < cLine) : OpR X (compareOp .NotEq) (rC2 (compareOp .NotEq) X neG) := by
  intro pins s σ H x y v u Q I rx ry h
  obtain ⟨d, e, b, hd, he, hg, q⟩ := h
  obtain ⟨as, r1⟩ := Dp.reads I d x v hd rx
  obtain ⟨bs, r2⟩ := Dp.reads I e y u he ry
  have c : (shal 9 d || shal 9 e) = true := by
    unfold neG at hg
    split at hg
    · assumption
    · cases hg
  have eb : b = !PyData.eqv d e := by
    unfold neG at hg
    rw [if_pos c] at hg
    exact (Option.some.inj hg).symm
  have hm := min_of c
  subst eb
  exact PySem.SeqAt.ne_plain r1 r2 (Dp.plain hd) (Dp.plain he) (by omega) ⟨.bl _, H, I, rfl, q⟩
theorem rd_c2 {f : Value → Value → Sem Value} {g : PyData → PyData → Option Bool} {k : Ob → Ob → Option Ob} (hk : ∀ x y o, k x y = some o → ∃ d e b, asData x = some d ∧ asData y = some e ∧ g d e = some b ∧ o = fB b) : Rd2 X.K (rC2 f X g) k := fun Z H v u o p h h' o' Q za r1 r2 e kk => by
  obtain ⟨d, e', b, ed, ee, eg, rfl⟩ := hk o p o' e
  exact ⟨d, e', b, asData_rep r1 ed, asData_rep r2 ee, eg, kk.flat (.bl _)⟩
theorem rd_eq : Rd2 X.K (rC2 (compareOp .Eq) X eqG) eqO := rd_c2 fun x y o h => by
  obtain ⟨d, ed, h⟩ := bind_some h
  obtain ⟨e, ee, h⟩ := bind_some h
  obtain ⟨c, rfl⟩ := ite_ob h
  exact ⟨d, e, _, ed, ee, by unfold eqG; rw [if_pos c], rfl⟩
theorem rd_ne : Rd2 X.K (rC2 (compareOp .NotEq) X neG) neO := rd_c2 fun x y o h => by
  obtain ⟨d, ed, h⟩ := bind_some h
  obtain ⟨e, ee, h⟩ := bind_some h
  obtain ⟨c, rfl⟩ := ite_ob h
  exact ⟨d, e, _, ed, ee, by unfold neG; rw [if_pos c], rfl⟩
theorem cmp_facts {d e : PyData} (h : cmpOk d e = true) : PySem.W.alike d e = true ∧ d ≠ .none ∧ min d.depth e.depth ≤ 9 := by
  obtain ⟨a, b⟩ := Bool.and_eq_true_iff.mp h
  obtain ⟨b, c⟩ := Bool.and_eq_true_iff.mp b
  exact ⟨a, (fun q => by rw [q] at c; cases c), Nat.le_trans (Nat.min_le_left _ _) (shal_depth d 9 b)⟩
abbrev cG (f : PyData → PyData → Bool) (d e : PyData) : Option Bool := if cmpOk d e then some (f d e) else none
theorem cG_some {f : PyData → PyData → Bool} {d e : PyData} {b : Bool} (h : cG f d e = some b) : cmpOk d e = true ∧ b = f d e := by
  unfold cG at h
  split at h
  · exact ⟨by assumption, (Option.some.inj h).symm⟩
  · cases h
theorem rd_cG {f : Value → Value → Sem Value} {F : PyData → PyData → Bool} {k : Ob → Ob → Option Ob} (hk : k = fun x y => (asData x).bind fun d => (asData y).bind fun e => if cmpOk d e then some (fB (F d e)) else none) : Rd2 X.K (rC2 f X (cG F)) k := rd_c2 fun x y o h => by
  subst hk
  obtain ⟨d, ed, h⟩ := bind_some h
  obtain ⟨e, ee, h⟩ := bind_some h
  obtain ⟨c, rfl⟩ := ite_ob h
  exact ⟨d, e, _, ed, ee, by unfold cG; rw [if_pos c], rfl⟩
theorem op_ltG (hu : X.A.units + 64 < cLine) : OpR X (compareOp .Lt) (rC2 (compareOp .Lt) X (cG fun d e => PySem.W.dataLt d e)) := by
  intro pins s σ H x y v u Q I rx ry h
  obtain ⟨d, e, b, hd, he, hg, q⟩ := h
  obtain ⟨as, r1⟩ := Dp.reads I d x v hd rx
  obtain ⟨bs, r2⟩ := Dp.reads I e y u he ry
  obtain ⟨c, rfl⟩ := cG_some hg
  obtain ⟨c1, c2, c3⟩ := cmp_facts c
  exact PySem.W.lt_data r1 r2 c1 c2 (by omega) ⟨.bl _, H, I, rfl, q⟩
theorem op_gtG (hu : X.A.units + 64 < cLine) : OpR X (compareOp .Gt) (rC2 (compareOp .Gt) X (cG fun d e => PySem.W.dataLt e d)) := by
  intro pins s σ H x y v u Q I rx ry h
  obtain ⟨d, e, b, hd, he, hg, q⟩ := h
  obtain ⟨as, r1⟩ := Dp.reads I d x v hd rx
  obtain ⟨bs, r2⟩ := Dp.reads I e y u he ry
  obtain ⟨c, rfl⟩ := cG_some hg
  obtain ⟨c1, c2, c3⟩ := cmp_facts c
  exact PySem.W.gt_data r1 r2 c1 c2 (by omega) ⟨.bl _, H, I, rfl, q⟩
theorem op_leG (hu : X.A.units + 64 < cLine) : OpR X (compareOp .LtE) (rC2 (compareOp .LtE) X (cG fun d e => !PySem.W.dataLt e d)) := by
  intro pins s σ H x y v u Q I rx ry h
  obtain ⟨d, e, b, hd, he, hg, q⟩ := h
  obtain ⟨as, r1⟩ := Dp.reads I d x v hd rx
  obtain ⟨bs, r2⟩ := Dp.reads I e y u he ry
  obtain ⟨c, rfl⟩ := cG_some hg
  obtain ⟨c1, c2, c3⟩ := cmp_facts c
  exact PySem.W.le_data r1 r2 c1 c2 (by omega) ⟨.bl _, H, I, rfl, q⟩
theorem op_geG (hu : X.A.units + 64 < cLine) : OpR X (compareOp .GtE) (rC2 (compareOp .GtE) X (cG fun d e => !PySem.W.dataLt d e)) := by
  intro pins s σ H x y v u Q I rx ry h
  obtain ⟨d, e, b, hd, he, hg, q⟩ := h
  obtain ⟨as, r1⟩ := Dp.reads I d x v hd rx
  obtain ⟨bs, r2⟩ := Dp.reads I e y u he ry
  obtain ⟨c, rfl⟩ := cG_some hg
  obtain ⟨c1, c2, c3⟩ := cmp_facts c
  exact PySem.W.ge_data r1 r2 c1 c2 (by omega) ⟨.bl _, H, I, rfl, q⟩
theorem rd_iB {F : Int → Int → Bool} {k : Ob → Ob → Option Ob} (hk : k = fun x y => (asI x).bind fun i => (asI y).bind fun j => some (fB (F i j))) : Rd2 K (rI0 fun i j => .bl (F i j)) k := fun Z H v u o p h h' o' Q za r1 r2 e kk => by
  subst hk
  obtain ⟨i, ei, e⟩ := bind_some e
  obtain ⟨j, ej, e⟩ := bind_some e
  cases e
  exact ⟨i, j, asI_rep r1 ei, asI_rep r2 ej, kk.flat (.bl _)⟩
abbrev rLtA (X : Cx) : R2 := fun x y H Q => rI0 (fun i j => .bl (decide (i < j))) x y H Q ∨ rC2 (compareOp .Lt) X (cG fun d e => PySem.W.dataLt d e) x y H Q
abbrev rGtA (X : Cx) : R2 := fun x y H Q => rI0 (fun i j => .bl (decide (j < i))) x y H Q ∨ rC2 (compareOp .Gt) X (cG fun d e => PySem.W.dataLt e d) x y H Q
abbrev rLeA (X : Cx) : R2 := fun x y H Q => rI0 (fun i j => .bl (decide (i ≤ j))) x y H Q ∨ rC2 (compareOp .LtE) X (cG fun d e => !PySem.W.dataLt e d) x y H Q
abbrev rGeA (X : Cx) : R2 := fun x y H Q => rI0 (fun i j => .bl (decide (j ≤ i))) x y H Q ∨ rC2 (compareOp .GtE) X (cG fun d e => !PySem.W.dataLt d e) x y H Q
theorem op_ltA (hu : X.A.units + 64 < cLine) : OpR X (compareOp .Lt) (rLtA X) := op_lt.or (op_ltG hu)
theorem op_gtA (hu : X.A.units + 64 < cLine) : OpR X (compareOp .Gt) (rGtA X) := op_gt.or (op_gtG hu)
theorem op_leA (hu : X.A.units + 64 < cLine) : OpR X (compareOp .LtE) (rLeA X) := op_le.or (op_leG hu)
theorem op_geA (hu : X.A.units + 64 < cLine) : OpR X (compareOp .GtE) (rGeA X) := op_ge.or (op_geG hu)
theorem rd_ltA : Rd2 X.K (rLtA X) ltA := (rd_iB rfl).or (rd_cG rfl)
theorem rd_gtA : Rd2 X.K (rGtA X) gtA := (rd_iB rfl).or (rd_cG rfl)
theorem rd_leA : Rd2 X.K (rLeA X) leA := (rd_iB rfl).or (rd_cG rfl)
theorem rd_geA : Rd2 X.K (rGeA X) geA := (rd_iB rfl).or (rd_cG rfl)

/-! ## in, is -/
def inO (x y : Ob) : Option Ob := (asData x).bind fun d => (asSeq y).bind fun l => if shal 9 d then some (fB (l.any fun z => PyData.eqv z d)) else none
def niO (x y : Ob) : Option Ob := (asData x).bind fun d => (asSeq y).bind fun l => if shal 9 d then some (fB (!l.any fun z => PyData.eqv z d)) else none
abbrev rInA (X : Cx) (n : Bool) : R2 := fun x y H Q => ∃ d l, Dp X.K H x d ∧ (Dp X.K H y (.list l) ∨ Dp X.K H y (.tuple l)) ∧ shal 9 d = true ∧ Q (.bl (if n then !l.any fun z => PyData.eqv z d else l.any fun z => PyData.eqv z d)) H
theorem op_inA (hu : X.A.units + 64 < cLine) : OpR X (compareOp .In) (rInA X false) := by
  intro pins s σ H x y v u Q I rx ry h
  obtain ⟨d, l, hd, hl, c, q⟩ := h
  obtain ⟨as, r1⟩ := Dp.reads I d x v hd rx
  have hm : min (PyData.depthAll l) d.depth ≤ 9 := Nat.le_trans (Nat.min_le_right _ _) (shal_depth d 9 c)
  rcases hl with hl | hl
  · obtain ⟨bs, r2⟩ := Dp.reads I _ y u hl ry
    exact PySem.SeqAt.in_list_data r2 r1 (by simpa [PyData.plain] using Dp.plain hl) (Dp.plain hd) (by omega) ⟨.bl _, H, I, rfl, q⟩
  · obtain ⟨bs, r2⟩ := Dp.reads I _ y u hl ry
    exact PySem.SeqAt.in_tuple_data r2 r1 (by simpa [PyData.plain] using Dp.plain hl) (Dp.plain hd) (by omega) ⟨.bl _, H, I, rfl, q⟩
theorem op_niA (hu : X.A.units + 64 < cLine) : OpR X (compareOp .NotIn) (rInA X true) := by
  intro pins s σ H x y v u Q I rx ry h
  obtain ⟨d, l, hd, hl, c, q⟩ := h
  obtain ⟨as, r1⟩ := Dp.reads I d x v hd rx
  have hm : min (PyData.depthAll l) d.depth ≤ 9 := Nat.le_trans (Nat.min_le_right _ _) (shal_depth d 9 c)
  rcases hl with hl | hl
  · obtain ⟨bs, r2⟩ := Dp.reads I _ y u hl ry
    exact PySem.SeqAt.notIn_list_data r2 r1 (by simpa [PyData.plain] using Dp.plain hl) (Dp.plain hd) (by omega) ⟨.bl _, H, I, rfl, q⟩
  · obtain ⟨bs, r2⟩ := Dp.reads I _ y u hl ry
    exact PySem.SeqAt.notIn_tuple_data r2 r1 (by simpa [PyData.plain] using Dp.plain hl) (Dp.plain hd) (by omega) ⟨.bl _, H, I, rfl, q⟩
theorem asSeq_dp {v : V} {o : Ob} {g : List Addr} {l : List PyData} (r : RepO K Z H v o g) (e : asSeq o = some l) : Dp K H v (.list l) ∨ Dp K H v (.tuple l) := by
  obtain ⟨a, vs, rfl, s, t⟩ := asSeq_rep r e
  rcases s with s | s
  · exact .inl (.lst s t.dp)
  · exact .inr (.tup s t.dp)
theorem rd_in : Rd2 X.K (rInA X false) inO := fun Z H v u o p h h' o' Q za r1 r2 e k => by
  obtain ⟨d, ed, e⟩ := bind_some e
  obtain ⟨l, el, e⟩ := bind_some e
  obtain ⟨c, rfl⟩ := ite_ob e
  exact ⟨d, l, asData_rep r1 ed, asSeq_dp r2 el, c, k.flat (.bl _)⟩
theorem rd_ni : Rd2 X.K (rInA X true) niO := fun Z H v u o p h h' o' Q za r1 r2 e k => by
  obtain ⟨d, ed, e⟩ := bind_some e
  obtain ⟨l, el, e⟩ := bind_some e
  obtain ⟨c, rfl⟩ := ite_ob e
  exact ⟨d, l, asData_rep r1 ed, asSeq_dp r2 el, c, k.flat (.bl _)⟩
/-- x is None, True, False (no other constants) -/
def isNone : PyData → Bool
  | .none => true
  | _ => false
def isO (x y : Ob) : Option Ob := match y, asD x with
  | .fr .none, some d => some (fB (isNone d))
  | .fr (.bool b), some (.bool c) => some (fB (c == b))
  | _, _ => none
def isnO (x y : Ob) : Option Ob := match y, asD x with
  | .fr .none, some d => some (fB (!isNone d))
  | .fr (.bool b), some (.bool c) => some (fB (!(c == b)))
  | _, _ => none
end
end DL

namespace DL
open PySem PySem.Spec PyProof.Rows L2

/-! ## the order of data: whole numbers, texts, tuples of these -/
mutual
def cmpX : PyData → PyData → Ordering
  | .int i, .int j => if i < j then .lt else if i = j then .eq else .gt
  | .str x, .str y => if x.cps.toList < y.cps.toList then .lt else if x = y then .eq else .gt
  | .tuple l, .tuple m => cmpXs l m
  | _, _ => .eq
def cmpXs : List PyData → List PyData → Ordering
  | [], [] => .eq
  | [], _ :: _ => .lt
  | _ :: _, [] => .gt
  | x :: xs, y :: ys => match cmpX x y with
    | .lt => .lt
    | .gt => .gt
    | .eq => cmpXs xs ys
end
mutual
def plainK : PyData → Bool
  | .int _ => true
  | .str _ => true
  | .tuple l => plainKs l
  | _ => false
def plainKs : List PyData → Bool
  | [] => true
  | d :: ds => plainK d && plainKs ds
end
def hasN : Nat → PyData → Bool
  | 0, .int _ => true
  | n + 1, .tuple l => l.all (hasN n)
  | _, _ => false
theorem plainKs_all : ∀ l : List PyData, plainKs l = l.all plainK
  | [] => rfl
  | d :: ds => by rw [plainKs, List.all_cons, plainKs_all ds]
theorem hasN_plain : ∀ (n : Nat) (d : PyData), hasN n d = true → plainK d = true
  | 0, .int _, _ => rfl
  | n + 1, .tuple l, h => by
    have h : l.all (hasN n) = true := h
    rw [plainK, plainKs_all]
    exact List.all_eq_true.mpr fun x m => hasN_plain n x (List.all_eq_true.mp h x m)
  | 0, .none, h => by cases h
  | 0, .bool _, h => by cases h
  | 0, .str _, h => by cases h
  | 0, .list _, h => by cases h
  | 0, .tuple _, h => by cases h
  | 0, .dict _, h => by cases h
  | _ + 1, .none, h => by cases h
  | _ + 1, .bool _, h => by cases h
  | _ + 1, .int _, h => by cases h
  | _ + 1, .str _, h => by cases h
  | _ + 1, .list _, h => by cases h
  | _ + 1, .dict _, h => by cases h
theorem hasN_alike : ∀ (n : Nat) (d e : PyData), hasN n d = true → hasN n e = true → PySem.W.alike d e = true
  | 0, d, e, h, h' => by
    cases d <;> first | (cases h; done) | skip
    cases e <;> first | (cases h'; done) | skip
    simp [PySem.W.alike]
  | n + 1, d, e, h, h' => by
    cases d <;> first | (cases h; done) | skip
    cases e <;> first | (cases h'; done) | skip
    rename_i l m
    have h : l.all (hasN n) = true := h
    have h' : m.all (hasN n) = true := h'
    rw [PySem.W.alike]
    have key : ∀ l m : List PyData, l.all (hasN n) = true → m.all (hasN n) = true → PySem.W.alikeAll l m = true := by
      intro l
      induction l with
      | nil => intro m _ _; simp [PySem.W.alikeAll]
      | cons x xs ih =>
        intro m h h'
        cases m with
        | nil => simp [PySem.W.alikeAll]
        | cons y ys =>
          rw [List.all_cons, Bool.and_eq_true] at h h'
          rw [PySem.W.alikeAll, hasN_alike n x y h.1 h'.1, Bool.true_and]
          exact ih ys h.2 h'.2
    exact key l m h h'
theorem hasN_depth : ∀ (n : Nat) (d : PyData), hasN n d = true → d.depth ≤ n
  | 0, d, h => by
    cases d <;> first | (cases h; done) | simp [PyData.depth]
  | n + 1, d, h => by
    cases d <;> first | (cases h; done) | skip
    rename_i l
    have h : l.all (hasN n) = true := h
    rw [PyData.depth]
    have key : ∀ l : List PyData, l.all (hasN n) = true → PyData.depthAll l ≤ n := by
      intro l
      induction l with
      | nil => intro _; simp [PyData.depthAll]
      | cons x xs ih =>
        intro h
        rw [List.all_cons, Bool.and_eq_true] at h
        have h1 := hasN_depth n x h.1
        have h2 := ih h.2
        simp only [PyData.depthAll]; omega
    have := key l h
    omega
theorem str_lt_irrefl (x : List Nat) : ¬ x < x := List.lt_irrefl x
structure CmpOk (x y : PyData) (c : Ordering) : Prop where
  lt : PySem.W.dataLt x y = (c == .lt)
  gt : PySem.W.dataLt y x = (c == .gt)
  eqv : PyData.eqv x y = (c == .eq)
  eq : c = .eq → x = y
mutual
theorem cmp_ok : ∀ (x y : PyData), plainK x = true → plainK y = true → PySem.W.alike x y = true → CmpOk x y (cmpX x y)
  | .int i, .int j, _, _, h => by
    unfold cmpX
    by_cases h1 : i < j
    · rw [if_pos h1]
      exact ⟨by rw [PySem.W.dataLt_int, decide_eq_true h1]; rfl, by rw [PySem.W.dataLt_int, decide_eq_false (by omega)]; rfl, by simp only [PyData.eqv]; rw [beq_eq_false_iff_ne.mpr (by omega)]; rfl, fun e => nomatch e⟩
    · rw [if_neg h1]
      by_cases h2 : i = j
      · rw [if_pos h2]
        exact ⟨by rw [PySem.W.dataLt_int, decide_eq_false h1]; rfl, by rw [PySem.W.dataLt_int, decide_eq_false (by omega)]; rfl, by simp only [PyData.eqv]; rw [h2]; simp, fun _ => by rw [h2]⟩
      · rw [if_neg h2]
        exact ⟨by rw [PySem.W.dataLt_int, decide_eq_false h1]; rfl, by rw [PySem.W.dataLt_int, decide_eq_true (by omega)]; rfl, by simp only [PyData.eqv]; rw [beq_eq_false_iff_ne.mpr h2]; rfl, fun e => nomatch e⟩
  | .str a, .str b, _, _, h => by
    unfold cmpX
    by_cases h1 : a.cps.toList < b.cps.toList
    · rw [if_pos h1]
      have hn : ¬ b.cps.toList < a.cps.toList := fun q => List.lt_irrefl _ (List.lt_trans h1 q)
      have he : a ≠ b := fun q => by subst q; exact List.lt_irrefl _ h1
      exact ⟨by rw [PySem.W.dataLt_str, decide_eq_true h1]; rfl, by rw [PySem.W.dataLt_str, decide_eq_false hn]; rfl, by simp only [PyData.eqv]; rw [beq_eq_false_iff_ne.mpr he]; rfl, fun e => nomatch e⟩
    · rw [if_neg h1]
      by_cases h2 : a = b
      · rw [if_pos h2]
        subst h2
        exact ⟨by rw [PySem.W.dataLt_str, decide_eq_false h1]; rfl, by rw [PySem.W.dataLt_str, decide_eq_false h1]; rfl, by simp only [PyData.eqv]; simp, fun _ => rfl⟩
      · rw [if_neg h2]
        have h3 : b.cps.toList < a.cps.toList := by
          rcases Decidable.em (b.cps.toList < a.cps.toList) with h | h
          · exact h
          · have h' : a.cps.toList ≤ b.cps.toList := h
            have h'' : b.cps.toList ≤ a.cps.toList := h1
            exact absurd (PySem.W.str_of_cps (List.le_antisymm h' h'')) h2
        exact ⟨by rw [PySem.W.dataLt_str, decide_eq_false h1]; rfl, by rw [PySem.W.dataLt_str, decide_eq_true h3]; rfl, by simp only [PyData.eqv]; rw [beq_eq_false_iff_ne.mpr h2]; rfl, fun e => nomatch e⟩
  | .tuple l, .tuple m, hx, hy, h => by
    have q := cmps_ok l m (by simpa [plainK] using hx) (by simpa [plainK] using hy) (by simpa [PySem.W.alike] using h)
    unfold cmpX
    exact q
  | .int _, .none, _, _, h => by simp [PySem.W.alike] at h
  | .int _, .bool _, _, _, h => by simp [PySem.W.alike] at h
  | .int _, .str _, _, _, h => by simp [PySem.W.alike] at h
  | .int _, .list _, _, _, h => by simp [PySem.W.alike] at h
  | .int _, .tuple _, _, _, h => by simp [PySem.W.alike] at h
  | .int _, .dict _, _, _, h => by simp [PySem.W.alike] at h
  | .str _, .none, _, _, h => by simp [PySem.W.alike] at h
  | .str _, .bool _, _, _, h => by simp [PySem.W.alike] at h
  | .str _, .int _, _, _, h => by simp [PySem.W.alike] at h
  | .str _, .list _, _, _, h => by simp [PySem.W.alike] at h
  | .str _, .tuple _, _, _, h => by simp [PySem.W.alike] at h
  | .str _, .dict _, _, _, h => by simp [PySem.W.alike] at h
  | .tuple _, .none, _, _, h => by simp [PySem.W.alike] at h
  | .tuple _, .bool _, _, _, h => by simp [PySem.W.alike] at h
  | .tuple _, .int _, _, _, h => by simp [PySem.W.alike] at h
  | .tuple _, .str _, _, _, h => by simp [PySem.W.alike] at h
  | .tuple _, .list _, _, _, h => by simp [PySem.W.alike] at h
  | .tuple _, .dict _, _, _, h => by simp [PySem.W.alike] at h
  | .none, _, hx, _, _ => by simp [plainK] at hx
  | .bool _, _, hx, _, _ => by simp [plainK] at hx
  | .list _, _, hx, _, _ => by simp [plainK] at hx
  | .dict _, _, hx, _, _ => by simp [plainK] at hx
theorem cmps_ok : ∀ (l m : List PyData), plainKs l = true → plainKs m = true → PySem.W.alikeAll l m = true → CmpOk (.tuple l) (.tuple m) (cmpXs l m)
  | [], [], _, _, _ => by
    unfold cmpXs
    exact ⟨by decide, by decide, by simp [PyData.eqv, PyData.eqvAll], fun _ => rfl⟩
  | [], y :: ys, _, _, _ => by
    unfold cmpXs
    refine ⟨?_, ?_, by simp [PyData.eqv, PyData.eqvAll], fun e => nomatch e⟩
    · rw [PySem.W.dataLt_tuple, PySem.W.toks_all_cons]; simp [PySem.W.keyToksAll]; exact PySem.W.lex_atom (by decide) _ _
    · rw [PySem.W.dataLt_tuple, PySem.W.toks_all_cons]; simp [PySem.W.keyToksAll]; exact PySem.W.lex_atom (by decide) _ _
  | x :: xs, [], _, _, _ => by
    unfold cmpXs
    refine ⟨?_, ?_, by simp [PyData.eqv, PyData.eqvAll], fun e => nomatch e⟩
    · rw [PySem.W.dataLt_tuple, PySem.W.toks_all_cons]; simp [PySem.W.keyToksAll]; exact PySem.W.lex_atom (by decide) _ _
    · rw [PySem.W.dataLt_tuple, PySem.W.toks_all_cons]; simp [PySem.W.keyToksAll]; exact PySem.W.lex_atom (by decide) _ _
  | x :: xs, y :: ys, hx, hy, h => by
    have hx : plainK x = true ∧ plainKs xs = true := by simpa [plainKs] using hx
    have hy : plainK y = true ∧ plainKs ys = true := by simpa [plainKs] using hy
    obtain ⟨a1, a2⟩ := PySem.W.alike_all_cons h
    have a1' : PySem.W.alike y x = true := by rw [PySem.W.alike_comm]; exact a1
    have c := cmp_ok x y hx.1 hy.1 a1
    have cs := cmps_ok xs ys hx.2 hy.2 a2
    have ev := PySem.W.eqv_all_cons x y xs ys
    unfold cmpXs
    have sw : PyData.eqv y x = PyData.eqv x y := PySem.W.eqv_comm y x
    cases hc : cmpX x y with
    | lt =>
      rw [hc] at c
      have e : PyData.eqv x y = false := c.eqv
      refine ⟨?_, ?_, ?_, fun e => nomatch e⟩
      · rw [PySem.W.dataLt_tuple, PySem.W.dataLt_all_no a1 e]; exact c.lt
      · rw [PySem.W.dataLt_tuple, PySem.W.dataLt_all_no a1' (by rw [sw]; exact e)]; exact c.gt
      · show PyData.eqv (.tuple (x :: xs)) (.tuple (y :: ys)) = _
        simp only [PyData.eqv]; rw [ev, e]; rfl
    | gt =>
      rw [hc] at c
      have e : PyData.eqv x y = false := c.eqv
      refine ⟨?_, ?_, ?_, fun e => nomatch e⟩
      · rw [PySem.W.dataLt_tuple, PySem.W.dataLt_all_no a1 e]; exact c.lt
      · rw [PySem.W.dataLt_tuple, PySem.W.dataLt_all_no a1' (by rw [sw]; exact e)]; exact c.gt
      · show PyData.eqv (.tuple (x :: xs)) (.tuple (y :: ys)) = _
        simp only [PyData.eqv]; rw [ev, e]; rfl
    | eq =>
      rw [hc] at c
      have e : PyData.eqv x y = true := c.eqv
      refine ⟨?_, ?_, ?_, fun q => ?_⟩
      · rw [PySem.W.dataLt_tuple, PySem.W.dataLt_all_yes a1 e, ← PySem.W.dataLt_tuple]; exact cs.lt
      · rw [PySem.W.dataLt_tuple, PySem.W.dataLt_all_yes a1' (by rw [sw]; exact e), ← PySem.W.dataLt_tuple]; exact cs.gt
      · show PyData.eqv (.tuple (x :: xs)) (.tuple (y :: ys)) = _
        have q := cs.eqv
        simp only [PyData.eqv] at q ⊢
        rw [ev, e, Bool.true_and]; exact q
      · have h1 := c.eq rfl
        have h2 := cs.eq q
        injection h2 with h2
        rw [h1, h2]
end
/-! ## sorting -/
def leX (x y : PyData) : Bool := match cmpX x y with
  | .gt => false
  | _ => true
def ins (x : PyData) : List PyData → List PyData
  | [] => [x]
  | y :: ys => match cmpX x y with
    | .gt => y :: ins x ys
    | _ => x :: y :: ys
def isort : List PyData → List PyData
  | [] => []
  | x :: xs => ins x (isort xs)
def pairOk (l : List PyData) : Bool := l.all plainK && (l.all fun x => l.all fun y => PySem.W.alike x y) && l.all (shal 9)
def neTup : PyData → Bool
  | .tuple (_ :: _) => true
  | _ => false
def noTup : PyData → Bool
  | .tuple _ => false
  | .none => false
  | _ => true
/-- what can be sorted here -/
def okSort (l : List PyData) : Bool := l.all (hasN 0) || (l.all neTup && (l.all (hasN 1) || (l.all (hasN 2) || pairOk l)) || (l.all noTup && pairOk l))
structure SortOk (l : List PyData) : Prop where
  pl : ∀ x ∈ l, plainK x = true
  al : ∀ x ∈ l, ∀ y ∈ l, PySem.W.alike x y = true
  dp : ∀ x ∈ l, x.depth ≤ 9
  so : PySem.W.Sortable l
theorem okSort_ok {l : List PyData} (h : okSort l = true) : SortOk l := by
  have hn : ∀ n, n ≤ 9 → l.all (hasN n) = true → PySem.W.Sortable l → SortOk l := fun n n9 h so => by
    have h := List.all_eq_true.mp h
    exact ⟨fun x m => hasN_plain n x (h x m), fun x m y m' => hasN_alike n x y (h x m) (h y m'), fun x m => Nat.le_trans (hasN_depth n x (h x m)) n9, so⟩
  have hp : pairOk l = true → PySem.W.Sortable l → SortOk l := fun h so => by
    obtain ⟨h, h3⟩ := Bool.and_eq_true_iff.mp h
    obtain ⟨h1, h2⟩ := Bool.and_eq_true_iff.mp h
    exact ⟨List.all_eq_true.mp h1, fun x m => List.all_eq_true.mp (List.all_eq_true.mp h2 x m), fun x m => shal_depth x 9 (List.all_eq_true.mp h3 x m), so⟩
  have s1 : l.all neTup = true → PySem.W.Sortable l := fun h => .inl fun d m => by
    have q := List.all_eq_true.mp h d m
    unfold neTup at q
    split at q
    · exact ⟨_, _, rfl⟩
    · cases q
  have s2 : l.all noTup = true → PySem.W.Sortable l := fun h => .inr fun d m => by
    have q := List.all_eq_true.mp h d m
    constructor
    · intro e; rw [e] at q; cases q
    · intro xs e; rw [e] at q; cases q
  unfold okSort at h
  rcases Bool.or_eq_true_iff.mp h with h | h
  · refine hn 0 (by decide) h (.inr fun d m => ?_)
    have q := List.all_eq_true.mp h d m
    constructor
    · intro e; rw [e] at q; cases q
    · intro xs e; rw [e] at q; cases q
  rcases Bool.or_eq_true_iff.mp h with h | h
  · obtain ⟨ht, h⟩ := Bool.and_eq_true_iff.mp h
    rcases Bool.or_eq_true_iff.mp h with h | h
    · exact hn 1 (by decide) h (s1 ht)
    rcases Bool.or_eq_true_iff.mp h with h | h
    · exact hn 2 (by decide) h (s1 ht)
    · exact hp h (s1 ht)
  · obtain ⟨ht, h⟩ := Bool.and_eq_true_iff.mp h
    exact hp h (s2 ht)
theorem SortOk.le {l : List PyData} (h : SortOk l) {x y : PyData} (hx : x ∈ l) (hy : y ∈ l) : PySem.W.dataLe false (fun d : PyData => d) x y = leX x y := by
  have c := cmp_ok x y (h.pl x hx) (h.pl y hy) (h.al x hx y hy)
  have e : PySem.W.dataLe false (fun d : PyData => d) x y = !PySem.W.dataLt y x := rfl
  rw [e, c.gt]
  unfold leX
  cases cmpX x y <;> rfl
theorem SortOk.anti {l : List PyData} (h : SortOk l) {x y : PyData} (hx : x ∈ l) (hy : y ∈ l) (h1 : leX x y = true) (h2 : leX y x = true) : x = y := by
  have c := cmp_ok x y (h.pl x hx) (h.pl y hy) (h.al x hx y hy)
  have c' := cmp_ok y x (h.pl y hy) (h.pl x hx) (h.al y hy x hx)
  unfold leX at h1 h2
  cases e : cmpX x y with
  | gt => rw [e] at h1; cases h1
  | eq => exact c.eq e
  | lt =>
    rw [e] at c
    have q : PySem.W.dataLt x y = true := c.lt
    rw [c'.gt] at q
    cases e' : cmpX y x with
    | gt => rw [e'] at h2; cases h2
    | lt => rw [e'] at q; cases q
    | eq => rw [e'] at q; cases q
theorem ins_perm (x : PyData) : ∀ l : List PyData, (ins x l).Perm (x :: l)
  | [] => .refl _
  | y :: ys => by
    unfold ins
    split
    · exact ((ins_perm x ys).cons y).trans (.swap x y ys)
    · exact .refl _
theorem isort_perm : ∀ l : List PyData, (isort l).Perm l
  | [] => .refl _
  | x :: xs => (ins_perm x (isort xs)).trans ((isort_perm xs).cons x)
theorem ins_sorted {L : List PyData} (h : SortOk L) {x : PyData} (hx : x ∈ L) : ∀ {l : List PyData}, (∀ y ∈ l, y ∈ L) → l.Pairwise (fun a b => leX a b = true) → (ins x l).Pairwise fun a b => leX a b = true
  | [], _, _ => by unfold ins; simp
  | y :: ys, m, s => by
    have tot := (PySem.W.sortLe_total (PyProof.Rows.listOrd PyProof.Rows.itemOrd) false (fun d : PyData => PySem.W.keyToks d))
    have hy := m y List.mem_cons_self
    rw [List.pairwise_cons] at s
    unfold ins
    split
    · rename_i e
      have c := cmp_ok x y (h.pl x hx) (h.pl y hy) (h.al x hx y hy)
      have yx : leX y x = true := by
        rw [← h.le hy hx]
        show (!PySem.W.dataLt x y) = true
        rw [c.lt, e]; rfl
      refine List.pairwise_cons.mpr ⟨fun z hz => ?_, ins_sorted h hx (fun z hz => m z (List.mem_cons_of_mem _ hz)) s.2⟩
      rcases List.mem_cons.mp ((ins_perm x ys).mem_iff.mp hz) with rfl | hz
      · exact yx
      · exact s.1 z hz
    · rename_i e
      have xy : leX x y = true := by
        unfold leX
        cases q : cmpX x y with
        | gt => exact absurd q e
        | _ => rfl
      refine List.pairwise_cons.mpr ⟨fun z hz => ?_, List.pairwise_cons.mpr s⟩
      rcases List.mem_cons.mp hz with rfl | hz
      · exact xy
      · have yz := s.1 z hz
        have hz' := m z (List.mem_cons_of_mem _ hz)
        rw [← h.le hx hz']
        exact tot.trans x y z (by rw [← h.le hx hy] at xy; exact xy) (by rw [← h.le hy hz'] at yz; exact yz)
theorem isort_sorted {L : List PyData} (h : SortOk L) : ∀ {l : List PyData}, (∀ y ∈ l, y ∈ L) → (isort l).Pairwise fun a b => leX a b = true
  | [], _ => List.Pairwise.nil
  | x :: xs, m => ins_sorted h (m x List.mem_cons_self) (fun y hy => m y (List.mem_cons_of_mem _ ((isort_perm xs).mem_iff.mp hy))) (isort_sorted h fun y hy => m y (List.mem_cons_of_mem _ hy))
theorem sort_eq {l : List PyData} (h : SortOk l) : l.mergeSort (PySem.W.dataLe false fun d : PyData => d) = isort l := by
  have tot := (PySem.W.sortLe_total (PyProof.Rows.listOrd PyProof.Rows.itemOrd) false (fun d : PyData => PySem.W.keyToks d))
  have p1 : (l.mergeSort (PySem.W.dataLe false fun d : PyData => d)).Perm l := List.mergeSort_perm _ _
  have s1 := List.pairwise_mergeSort (le := PySem.W.dataLe false fun d : PyData => d) (fun a b c => tot.trans a b c) (fun a b => by
    have q := tot.total a b
    rcases q with q | q
    · exact Bool.or_eq_true_iff.mpr (.inl q)
    · exact Bool.or_eq_true_iff.mpr (.inr q)) l
  have s1' : (l.mergeSort (PySem.W.dataLe false fun d : PyData => d)).Pairwise fun a b => leX a b = true := by
    refine List.Pairwise.imp_of_mem (fun {a b} ha hb q => ?_) s1
    rw [← h.le (p1.mem_iff.mp ha) (p1.mem_iff.mp hb)]
    exact q
  have s2 := isort_sorted h (l := l) fun y hy => hy
  have p := p1.trans (isort_perm l).symm
  exact List.Perm.eq_of_pairwise (le := fun a b => leX a b = true) (fun a b ha hb h1 h2 => h.anti (p1.mem_iff.mp ha) ((isort_perm l).mem_iff.mp hb) h1 h2) s1' s2 p
end DL

namespace DL
open PySem PySem.Spec PyProof.Rows L2

/-! ## is -/
section
variable {X : Cx} {K : PySem.W.Frag} {Z : Zs} {H : Hp}
abbrev rIsA : R2 := fun x y H Q => (y = .non ∧ Q (.bl (decide (x = .non))) H) ∨ rIsB x y H Q
abbrev rIsnA : R2 := fun x y H Q => (y = .non ∧ Q (.bl (!decide (x = .non))) H) ∨ rNotB x y H Q
theorem op_isA : OpR X (compareOp .Is) rIsA := op_isN.or op_isBl
theorem op_isnA : OpR X (compareOp .IsNot) rIsnA := op_notN.or op_notBl
theorem DpZ.non_iff {v : V} {d : PyData} (h : DpZ K Z H v d) : decide (v = .non) = isNone d := by
  cases h <;> rfl
theorem rd_is : Rd2 K rIsA isO := fun Z H v u o p h h' o' Q za r1 r2 e k => by
  unfold isO at e
  split at e
  · rename_i d e1
    cases e
    obtain ⟨d1, _⟩ := asD_rep r1 e1
    obtain ⟨d2, _⟩ := asD_rep r2 rfl
    cases d2
    refine .inl ⟨rfl, ?_⟩
    rw [d1.non_iff]
    exact k.flat (.bl _)
  · rename_i b c e1
    cases e
    obtain ⟨d1, _⟩ := asD_rep r1 e1
    obtain ⟨d2, _⟩ := asD_rep r2 rfl
    cases d1
    cases d2
    refine .inr ⟨_, _, rfl, rfl, ?_⟩
    rw [show decide (c = b) = (c == b) by cases b <;> cases c <;> rfl]
    exact k.flat (.bl _)
  · cases e
theorem rd_isn : Rd2 K rIsnA isnO := fun Z H v u o p h h' o' Q za r1 r2 e k => by
  unfold isnO at e
  split at e
  · rename_i d e1
    cases e
    obtain ⟨d1, _⟩ := asD_rep r1 e1
    obtain ⟨d2, _⟩ := asD_rep r2 rfl
    cases d2
    refine .inl ⟨rfl, ?_⟩
    rw [d1.non_iff]
    exact k.flat (.bl _)
  · rename_i b c e1
    cases e
    obtain ⟨d1, _⟩ := asD_rep r1 e1
    obtain ⟨d2, _⟩ := asD_rep r2 rfl
    cases d1
    cases d2
    refine .inr ⟨_, _, rfl, rfl, ?_⟩
    rw [show decide (c = b) = (c == b) by cases b <;> cases c <;> rfl]
    exact k.flat (.bl _)
  · cases e
end

/-! ## items, cuts -/
def ixD (l : List PyData) (i : Int) : Option PyData := match i with
  | .ofNat n => l[n]?
  | .negSucc n => if Nat.blt n l.length then l[l.length - 1 - n]? else none
def ixO (x y : Ob) : Option Ob := (asSeq x).bind fun l => (asI y).bind fun i => (ixD l i).bind fun d => some (.fr d)
section
variable {X : Cx} {K : PySem.W.Frag} {Z : Zs} {H : Hp}
theorem ixD_at {vs : List V} {l : List PyData} (h : DpZs K Z H vs l) {i : Int} {d : PyData} (e : ixD l i = some d) : ∃ v, atI vs i = some v ∧ DpZ K Z H v d := by
  cases i with
  | ofNat n =>
    have e : l[n]? = some d := e
    obtain ⟨v, h1, h2⟩ := h.atD e
    exact ⟨v, atI_nat h1, h2⟩
  | negSucc n =>
    have e : (if Nat.blt n l.length = true then l[l.length - 1 - n]? else none) = some d := e
    split at e
    · rename_i c
      have c' : n < l.length := Nat.le_of_ble_eq_true c
      obtain ⟨v, h1, h2⟩ := h.atD e
      refine ⟨v, ?_, h2⟩
      have hl := h.length
      unfold atI ixN
      rw [if_neg (by omega), if_pos (by rw [hl]; omega)]
      show vs[(Int.negSucc n + (vs.length : Int)).toNat]? = some v
      rw [show (Int.negSucc n + (vs.length : Int)).toNat = l.length - 1 - n by rw [hl]; omega]
      exact h1
    · cases e
theorem rd_ix : Rd2 K (rIx K) ixO := fun Z H v u o p h h' o' Q za r1 r2 e k => by
  obtain ⟨l, el, e⟩ := bind_some e
  obtain ⟨i, ei, e⟩ := bind_some e
  obtain ⟨d, ed, e⟩ := bind_some e
  cases e
  obtain ⟨a, vs, rfl, s, t⟩ := asSeq_rep r1 el
  obtain ⟨w, h1, h2⟩ := ixD_at t ed
  rcases s with s | s
  · exact .inl ⟨a, vs, i, w, rfl, asI_rep r2 ei, s, h1, k.flat h2⟩
  · exact .inr (.inl ⟨a, vs, i, w, rfl, asI_rep r2 ei, s, h1, k.flat h2⟩)
end
/-- a bound of a cut -/
def cutAt (n d : Nat) : Option Int → Nat
  | none => d
  | some (.ofNat k) => min k n
  | some (.negSucc k) => n - (k + 1)
theorem cutAt_eq (n d : Nat) (o : Option Int) : cutAt n d o = HT.sIx n d o := by
  cases o with
  | none => rfl
  | some i =>
    cases i with
    | ofNat k => exact (HT.sIx_nat n d k).symm
    | negSucc k =>
      have h := HT.clip_eq (Int.negSucc k) n d
      rw [if_pos (by omega)] at h
      show n - (k + 1) = _
      omega
def cutD {α : Type} (l : List α) (lo hi : Option Int) : List α := (l.drop (cutAt l.length 0 lo)).take (cutAt l.length l.length hi - cutAt l.length 0 lo)
abbrev FO := Env → Option (Option Int)
def tO (K : PySem.W.Frag) (f : FO) : TO := fun σ H Q => ∃ Z ρ fp o, Stt K Z H σ ρ fp ∧ f ρ = some o ∧ ∀ Z' H', Fr H [] Z H' [] Z' → Q o H'
def oNone : FO := fun _ => some none
def oSome (f : F1) : FO := fun ρ => (f ρ).bind fun x => (asI x).map some
def dSl (g : Ob → Option Int → Option Int → Option Ob) (f : F1) (lo hi : FO) : F1 := fun ρ => (f ρ).bind fun x => (lo ρ).bind fun a => (hi ρ).bind fun b => g x a b
def slO (x : Ob) (lo hi : Option Int) : Option Ob := match x with
  | .fr (.tuple l) => some (.fr (.tuple (cutD l lo hi)))
  | .fr (.list l) => some (.lst (cutD l lo hi))
  | .lst l => some (.lst (cutD l lo hi))
  | _ => none
def revO (x : Ob) : Option Ob := (asLst x).bind fun l => some (.lst l.reverse)
theorem PO.imp {X : Cx} {e : Option Expr} {t t' : TO} (h : PO X e t) (k : ∀ σ H Q, t' σ H Q → t σ H Q) : PO X e t' := ⟨fun pins s σ H Q I q => h.run pins s σ H Q I (k σ H Q q)⟩
section
variable {X : Cx} {K : PySem.W.Frag} {Z : Zs} {H : Hp} {e : Expr} {f : F1} {lo hi : Option Expr} {fl fh : FO} {p2 pos : Pos}
theorem p_none : PO X none (tO X.K oNone) := PO.imp po_none fun σ H Q h => by
  obtain ⟨Z, ρ, fp, o, S, e, k⟩ := h
  cases e
  exact k Z H .refl
theorem p_some (h : PR X e f) : PO X (some e) (tO X.K (oSome f)) := PO.imp (po_some h) fun σ H Q h => by
  obtain ⟨Z, ρ, fp, o, S, e, k⟩ := h
  obtain ⟨x, ex, e⟩ := bind_some e
  obtain ⟨i, ei, rfl⟩ := Option.map_eq_some_iff.mp e
  exact ⟨Z, ρ, fp, x, S, ex, fun Z1 H1 v1 g1 r1 a1 => ⟨i, asI_rep r1 ei, k Z1 H1 a1⟩⟩
theorem cutV_eq (vs : List V) (lo hi : Option Int) : cutV vs lo hi = cutD vs lo hi := by
  unfold cutV cutD
  rw [cutAt_eq, cutAt_eq]
theorem DpZs.cut {vs : List V} {l : List PyData} (h : DpZs K Z H vs l) (lo hi : Option Int) : DpZs K Z H (cutV vs lo hi) (cutD l lo hi) := by
  rw [cutV_eq]
  unfold cutD
  rw [h.length]
  exact (h.drop _).take _
theorem cutD_whole {α : Type} {l : List α} {lo hi : Option Int} (h : HT.sIx l.length 0 lo = 0 ∧ HT.sIx l.length l.length hi = l.length) : cutD l lo hi = l := by
  unfold cutD
  rw [cutAt_eq, cutAt_eq, h.1, h.2]
  simp
theorem d_sl (hp : PR X e f) (hl : PO X lo (tO X.K fl)) (hh : PO X hi (tO X.K fh)) : DP X (.Subscript e (.Slice lo hi none p2) pos) (dSl slO f fl fh) := PE.imp (pe_slice (SlR.or sl_list sl_tupA) hp hl hh) fun σ H Q h => by
  obtain ⟨Z, ρ, fp, o, S, e, k⟩ := h
  obtain ⟨x, ex, e⟩ := bind_some e
  obtain ⟨a, ea, e⟩ := bind_some e
  obtain ⟨b, eb, e⟩ := bind_some e
  refine ⟨Z, ρ, fp, x, S, ex, fun Z1 H1 v1 g1 r1 a1 => ⟨Z1, ρ, fp, a, S.still a1, ea, fun Z2 H2 a2 => ⟨Z2, ρ, fp, b, (S.still a1).still a2, eb, fun Z3 H3 a3 => ?_⟩⟩⟩
  have r3 := (r1.still a2).still a3
  have al := (a1.trans a2).trans a3
  have k' : Rst X.K Z3 H3 o Q := fun Z4 H4 v4 g4 r4 o4 a4 => k Z4 H4 v4 g4 r4 o4 (al.trans a4)
  unfold slO at e
  split at e
  · cases e
    obtain ⟨d1, _⟩ := asD_rep r3 rfl
    obtain ⟨t, vs, rfl, s, q⟩ := asTup_rep r3 rfl
    refine .inr ⟨t, vs, rfl, s, fun hw => ?_, fun _ => k'.tup (q.cut _ _)⟩
    rw [q.length] at hw
    rw [cutD_whole hw] at k'
    exact k'.flat d1
  · cases e
    obtain ⟨t, vs, rfl, s, q⟩ := asLst_rep r3 rfl
    exact .inl ⟨t, vs, rfl, .of s, k'.lst (q.cut _ _) (al.zal S.za)⟩
  · cases e
    obtain ⟨t, vs, rfl, s, q⟩ := asLst_rep r3 rfl
    exact .inl ⟨t, vs, rfl, .of s, k'.lst (q.cut _ _) (al.zal S.za)⟩
  · cases e
theorem d_rev {k : Nat} {p1 p2 p3 : Pos} (hp : PR X e f) : DP X (.Subscript e (.Slice none none (some (.UnaryOp .USub (.Constant (.int 1) k p1) p2)) p3) pos) (o1 revO f) := PE.imp (pe_revL hp) fun σ H Q h => by
  obtain ⟨Z, ρ, fp, o, S, e, k⟩ := h
  obtain ⟨x, ex, e⟩ := bind_some e
  obtain ⟨l, el, e⟩ := bind_some e
  cases e
  refine ⟨Z, ρ, fp, x, S, ex, fun Z1 H1 v1 g1 r1 a1 => ?_⟩
  obtain ⟨t, vs, rfl, s, q⟩ := asLst_rep r1 el
  exact ⟨t, vs, rfl, .of s, Rst.lst (fun Z4 H4 v4 g4 r4 o4 a4 => k Z4 H4 v4 g4 r4 o4 (a1.trans a4)) q.rev (a1.zal S.za)⟩
end

/-! ## built-in functions -/
def g1 (g : Ob → Option Ob) (os : List Ob) : Option Ob := match os with
  | [x] => g x
  | _ => none
def g2 (g : Ob → Ob → Option Ob) (os : List Ob) : Option Ob := match os with
  | [x, y] => g x y
  | _ => none
def lenO (x : Ob) : Option Ob := match x with
  | .ll l => some (.fr (.int l.length))
  | _ => (asSeq x).map fun l => .fr (.int l.length)
def listO (x : Ob) : Option Ob := (asSeq x).map .lst
def tupO (x : Ob) : Option Ob := (asSeq x).map fun l => .fr (.tuple l)
def absO (x : Ob) : Option Ob := (asI x).map fun i => .fr (.int (if i < 0 then -i else i))
def intO (x : Ob) : Option Ob := match x with
  | .fr (.int i) => some (.fr (.int i))
  | .fr (.bool b) => some (.fr (.int (if b then 1 else 0)))
  | _ => none
def max2O (x y : Ob) : Option Ob := (asI x).bind fun i => (asI y).bind fun j => some (.fr (.int (if j > i then j else i)))
def min2O (x y : Ob) : Option Ob := (asI x).bind fun i => (asI y).bind fun j => some (.fr (.int (if j < i then j else i)))
def dInt : PyData → Option Int
  | .int i => some i
  | _ => none
def dBool : PyData → Option Bool
  | .bool i => some i
  | _ => none
def intsOf : List PyData → Option (List Int)
  | [] => some []
  | d :: ds => (dInt d).bind fun i => (intsOf ds).bind fun l => some (i :: l)
def boolsOf : List PyData → Option (List Bool)
  | [] => some []
  | d :: ds => (dBool d).bind fun i => (boolsOf ds).bind fun l => some (i :: l)
def sumL : List Int → Int
  | [] => 0
  | i :: l => i + sumL l
def maxL : Int → List Int → Int
  | m, [] => m
  | m, i :: l => maxL (if m < i then i else m) l
def minL : Int → List Int → Int
  | m, [] => m
  | m, i :: l => minL (if i < m then i else m) l
def sumO (x : Ob) : Option Ob := (asLst x).bind fun l => (intsOf l).bind fun ns => some (.fr (.int (sumL ns)))
def maxO (x : Ob) : Option Ob := (asLst x).bind fun l => (intsOf l).bind fun ns => match ns with
  | [] => none
  | i :: r => some (.fr (.int (maxL i r)))
def minO (x : Ob) : Option Ob := (asLst x).bind fun l => (intsOf l).bind fun ns => match ns with
  | [] => none
  | i :: r => some (.fr (.int (minL i r)))
def anyO (x : Ob) : Option Ob := (asLst x).bind fun l => (boolsOf l).bind fun bs => some (fB (bs.any id))
def allO (x : Ob) : Option Ob := (asLst x).bind fun l => (boolsOf l).bind fun bs => some (fB (bs.all id))
def sortO (x : Ob) : Option Ob := (asLst x).bind fun l => if okSort l && short l then some (.lst (isort l)) else none
def reprO (x : Ob) : Option Ob := (asI x).bind fun i => if decide (i.natAbs.log2 < 1920) then some (.fr (.str (toString i))) else none
section
variable {X : Cx} {K : PySem.W.Frag} {Z : Zs} {H : Hp}
theorem g1_some {g : Ob → Option Ob} {os : List Ob} {o : Ob} (h : g1 g os = some o) : ∃ x, os = [x] ∧ g x = some o := by
  unfold g1 at h
  split at h
  · exact ⟨_, rfl, h⟩
  · cases h
theorem g2_some {g : Ob → Ob → Option Ob} {os : List Ob} {o : Ob} (h : g2 g os = some o) : ∃ x y, os = [x, y] ∧ g x y = some o := by
  unfold g2 at h
  split at h
  · exact ⟨_, _, rfl, h⟩
  · cases h
theorem RdL.one {r : List V → Hp → VK → Prop} {g : Ob → Option Ob} (h : ∀ Z H v o a o' Q, Za Z H → RepO K Z H v o a → g o = some o' → Rst K Z H o' Q → r [v] H Q) : RdL K r (g1 g) := fun Z H vs os o' Q za rs e k => by
  obtain ⟨x, rfl, e⟩ := g1_some e
  cases rs with
  | cons r1 t =>
    cases t
    exact h Z H _ x _ o' Q za r1 e k
theorem RdL.two {r : List V → Hp → VK → Prop} {g : Ob → Ob → Option Ob} (h : ∀ Z H v u o p a b o' Q, Za Z H → RepO K Z H v o a → RepO K Z H u p b → g o p = some o' → Rst K Z H o' Q → r [v, u] H Q) : RdL K r (g2 g) := fun Z H vs os o' Q za rs e k => by
  obtain ⟨x, y, rfl, e⟩ := g2_some e
  cases rs with
  | cons r1 t =>
    cases t with
    | cons r2 t =>
      cases t
      exact h Z H _ _ x y _ _ o' Q za r1 r2 e k
theorem LLs.length {bs : List Addr} {ls : List (List PyData)} (h : LLs K Z H bs ls) : bs.length = ls.length := by
  induction h with
  | nil => rfl
  | cons _ _ _ ih => simp [ih]
theorem rd_len : RdL K (fun xs H Q => ∃ p ys, xs = [.ref p] ∧ (SqL K H p ys ∨ SqT K H p ys) ∧ Q (.int ys.length) H) (g1 lenO) := .one fun Z H v o a o' Q za r e k => by
  unfold lenO at e
  split at e
  · rename_i l
    cases e
    cases r with
    | ll h t =>
      rename_i a bs
      refine ⟨a, bs.map V.ref, rfl, .inl (.of h), ?_⟩
      rw [List.length_map, t.length]
      exact k.flat (.int _)
  · obtain ⟨l, el, rfl⟩ := Option.map_eq_some_iff.mp e
    obtain ⟨p, vs, rfl, s, t⟩ := asSeq_rep r el
    refine ⟨p, vs, rfl, s, ?_⟩
    rw [t.length]
    exact k.flat (.int _)
theorem rd_list : RdL K (fun xs H Q => ∃ p ys, xs = [.ref p] ∧ (SqL K H p ys ∨ SqT K H p ys) ∧ ∀ l, H l = none → Q (.ref l) (upd H l (.lst ys))) (g1 listO) := .one fun Z H v o a o' Q za r e k => by
  obtain ⟨l, el, rfl⟩ := Option.map_eq_some_iff.mp e
  obtain ⟨p, vs, rfl, s, t⟩ := asSeq_rep r el
  exact ⟨p, vs, rfl, s, k.lst t za⟩
theorem rd_tuple : RdL K (fun xs H Q => ∃ p ys, xs = [.ref p] ∧ ((SqL K H p ys ∧ ∀ l, H l = none → Q (.ref l) (upd H l (.tup ys))) ∨ (SqT K H p ys ∧ Q (.ref p) H))) (g1 tupO) := .one fun Z H v o a o' Q za r e k => by
  obtain ⟨l, el, rfl⟩ := Option.map_eq_some_iff.mp e
  cases r with
  | fr h =>
    rename_i d
    cases d with
    | list l' =>
      cases el
      cases h with
      | lst _ s t => exact ⟨_, _, rfl, .inl ⟨.of s, k.tup t⟩⟩
    | tuple l' =>
      cases el
      obtain ⟨a, xs, e, s, t⟩ := h.sqt (a := 0)
      subst e
      exact ⟨a, xs, rfl, .inr ⟨s, k.flat h⟩⟩
    | _ => cases el
  | lst h t => cases el; exact ⟨_, _, rfl, .inl ⟨.of h, k.tup t⟩⟩
  | acc h t _ => cases el; exact ⟨_, _, rfl, .inl ⟨.of h, k.tup t⟩⟩
  | scr h =>
    cases el
    rcases h with ⟨_, h⟩ | h
    · exact ⟨_, _, rfl, .inl ⟨.inl h, k.tup (scr_ints _)⟩⟩
    · exact ⟨_, _, rfl, .inl ⟨h H, k.tup (scr_ints _)⟩⟩
  | _ => cases el
theorem rd_abs : RdL K (fun xs H Q => ∃ i, xs = [.int i] ∧ Q (.int (if i < 0 then -i else i)) H) (g1 absO) := .one fun Z H v o a o' Q za r e k => by
  obtain ⟨i, ei, rfl⟩ := Option.map_eq_some_iff.mp e
  exact ⟨i, by rw [asI_rep r ei], k.flat (.int _)⟩
theorem rd_int : RdL K (fun xs H Q => (∃ i, xs = [.int i] ∧ Q (.int i) H) ∨ ∃ k, xs = [.bl k] ∧ Q (.int (if k then 1 else 0)) H) (g1 intO) := .one fun Z H v o a o' Q za r e k => by
  unfold intO at e
  split at e
  · cases e
    exact .inl ⟨_, by rw [asI_rep r rfl], k.flat (.int _)⟩
  · cases e
    exact .inr ⟨_, by rw [asB_rep r rfl], k.flat (.int _)⟩
  · cases e
theorem rd_max2 : RdL K (fun xs H Q => ∃ i j, xs = [.int i, .int j] ∧ Q (.int (if j > i then j else i)) H) (g2 max2O) := .two fun Z H v u o p a b o' Q za r1 r2 e k => by
  obtain ⟨i, ei, e⟩ := bind_some e
  obtain ⟨j, ej, e⟩ := bind_some e
  cases e
  exact ⟨i, j, by rw [asI_rep r1 ei, asI_rep r2 ej], k.flat (.int _)⟩
theorem rd_min2 : RdL K (fun xs H Q => ∃ i j, xs = [.int i, .int j] ∧ Q (.int (if j < i then j else i)) H) (g2 min2O) := .two fun Z H v u o p a b o' Q za r1 r2 e k => by
  obtain ⟨i, ei, e⟩ := bind_some e
  obtain ⟨j, ej, e⟩ := bind_some e
  cases e
  exact ⟨i, j, by rw [asI_rep r1 ei, asI_rep r2 ej], k.flat (.int _)⟩
theorem ints_rep : ∀ {l : List PyData} {ns : List Int} {vs : List V}, intsOf l = some ns → DpZs K Z H vs l → vs = ns.map V.int
  | [], _, _, e, h => by cases e; cases h; rfl
  | d :: ds, ns, _, e, h => by
    obtain ⟨i, ei, e⟩ := bind_some (show ((dInt d).bind fun i => (intsOf ds).bind fun l => some (i :: l)) = some ns from e)
    obtain ⟨l, el, e⟩ := bind_some e
    cases e
    cases h with
    | cons h t =>
      rw [ints_rep el t]
      cases d <;> first | (cases ei; done) | skip
      cases ei
      cases h
      rfl
theorem bools_rep : ∀ {l : List PyData} {ns : List Bool} {vs : List V}, boolsOf l = some ns → DpZs K Z H vs l → vs = ns.map V.bl
  | [], _, _, e, h => by cases e; cases h; rfl
  | d :: ds, ns, _, e, h => by
    obtain ⟨i, ei, e⟩ := bind_some (show ((dBool d).bind fun i => (boolsOf ds).bind fun l => some (i :: l)) = some ns from e)
    obtain ⟨l, el, e⟩ := bind_some e
    cases e
    cases h with
    | cons h t =>
      rw [bools_rep el t]
      cases d <;> first | (cases ei; done) | skip
      cases ei
      cases h
      rfl
theorem sumL_eq : ∀ l : List Int, sumL l = l.sum
  | [] => rfl
  | i :: l => by rw [sumL, sumL_eq l, List.sum_cons]
theorem maxL_le : ∀ (l : List Int) (m : Int), m ≤ maxL m l ∧ (∀ y ∈ l, y ≤ maxL m l) ∧ (maxL m l = m ∨ maxL m l ∈ l)
  | [], m => ⟨Int.le_refl _, fun _ h => (nomatch h), .inl rfl⟩
  | i :: l, m => by
    obtain ⟨h1, h2, h3⟩ := maxL_le l (if m < i then i else m)
    unfold maxL
    by_cases c : m < i
    · rw [if_pos c] at h1 h2 h3 ⊢
      refine ⟨by omega, fun y hy => ?_, ?_⟩
      · rcases List.mem_cons.mp hy with rfl | hy
        · exact h1
        · exact h2 y hy
      · rcases h3 with h3 | h3
        · exact .inr (by rw [h3]; exact List.mem_cons_self)
        · exact .inr (List.mem_cons_of_mem _ h3)
    · rw [if_neg c] at h1 h2 h3 ⊢
      refine ⟨h1, fun y hy => ?_, ?_⟩
      · rcases List.mem_cons.mp hy with rfl | hy
        · omega
        · exact h2 y hy
      · rcases h3 with h3 | h3
        · exact .inl h3
        · exact .inr (List.mem_cons_of_mem _ h3)
theorem minL_le : ∀ (l : List Int) (m : Int), minL m l ≤ m ∧ (∀ y ∈ l, minL m l ≤ y) ∧ (minL m l = m ∨ minL m l ∈ l)
  | [], m => ⟨Int.le_refl _, fun _ h => (nomatch h), .inl rfl⟩
  | i :: l, m => by
    obtain ⟨h1, h2, h3⟩ := minL_le l (if i < m then i else m)
    unfold minL
    by_cases c : i < m
    · rw [if_pos c] at h1 h2 h3 ⊢
      refine ⟨by omega, fun y hy => ?_, ?_⟩
      · rcases List.mem_cons.mp hy with rfl | hy
        · exact h1
        · exact h2 y hy
      · rcases h3 with h3 | h3
        · exact .inr (by rw [h3]; exact List.mem_cons_self)
        · exact .inr (List.mem_cons_of_mem _ h3)
    · rw [if_neg c] at h1 h2 h3 ⊢
      refine ⟨h1, fun y hy => ?_, ?_⟩
      · rcases List.mem_cons.mp hy with rfl | hy
        · omega
        · exact h2 y hy
      · rcases h3 with h3 | h3
        · exact .inl h3
        · exact .inr (List.mem_cons_of_mem _ h3)
theorem rd_sum : RdL K (rSum K) (g1 sumO) := .one fun Z H v o a o' Q za r e k => by
  obtain ⟨l, el, e⟩ := bind_some e
  obtain ⟨ns, en, e⟩ := bind_some e
  cases e
  obtain ⟨p, vs, rfl, s, t⟩ := asLst_rep r el
  refine ⟨p, ns, rfl, by rw [← ints_rep en t]; exact .of s, ?_⟩
  rw [sumL_eq] at k
  exact k.flat (.int _)
theorem rd_max : RdL K (rMax K) (g1 maxO) := .one fun Z H v o a o' Q za r e k => by
  obtain ⟨l, el, e⟩ := bind_some e
  obtain ⟨ns, en, e⟩ := bind_some e
  cases ns with
  | nil => cases e
  | cons i ns =>
    cases e
    obtain ⟨p, vs, rfl, s, t⟩ := asLst_rep r el
    obtain ⟨h1, h2, h3⟩ := maxL_le ns i
    refine ⟨p, i :: ns, rfl, by rw [← ints_rep en t]; exact .of s, Nat.zero_lt_succ _, fun m hm h => ?_⟩
    have e1 : m = maxL i ns := by
      have b1 : m ≤ maxL i ns := by
        rcases List.mem_cons.mp hm with rfl | hm
        · exact h1
        · exact h2 m hm
      have b2 : maxL i ns ≤ m := by
        rcases h3 with h3 | h3
        · rw [h3]; exact h i List.mem_cons_self
        · exact h _ (List.mem_cons_of_mem _ h3)
      omega
    rw [e1]
    exact k.flat (.int _)
theorem rd_min : RdL K (rMin K) (g1 minO) := .one fun Z H v o a o' Q za r e k => by
  obtain ⟨l, el, e⟩ := bind_some e
  obtain ⟨ns, en, e⟩ := bind_some e
  cases ns with
  | nil => cases e
  | cons i ns =>
    cases e
    obtain ⟨p, vs, rfl, s, t⟩ := asLst_rep r el
    obtain ⟨h1, h2, h3⟩ := minL_le ns i
    refine ⟨p, i :: ns, rfl, by rw [← ints_rep en t]; exact .of s, Nat.zero_lt_succ _, fun m hm h => ?_⟩
    have e1 : m = minL i ns := by
      have b1 : minL i ns ≤ m := by
        rcases List.mem_cons.mp hm with rfl | hm
        · exact h1
        · exact h2 m hm
      have b2 : m ≤ minL i ns := by
        rcases h3 with h3 | h3
        · rw [h3]; exact h i List.mem_cons_self
        · exact h _ (List.mem_cons_of_mem _ h3)
      omega
    rw [e1]
    exact k.flat (.int _)
theorem rd_any : RdL K (rAny K) (g1 anyO) := .one fun Z H v o a o' Q za r e k => by
  obtain ⟨l, el, e⟩ := bind_some e
  obtain ⟨ns, en, e⟩ := bind_some e
  cases e
  obtain ⟨p, vs, rfl, s, t⟩ := asLst_rep r el
  exact ⟨p, ns, rfl, by rw [← bools_rep en t]; exact .of s, k.flat (.bl _)⟩
theorem rd_all : RdL K (rAll K) (g1 allO) := .one fun Z H v o a o' Q za r e k => by
  obtain ⟨l, el, e⟩ := bind_some e
  obtain ⟨ns, en, e⟩ := bind_some e
  cases e
  obtain ⟨p, vs, rfl, s, t⟩ := asLst_rep r el
  exact ⟨p, ns, rfl, by rw [← bools_rep en t]; exact .of s, k.flat (.bl _)⟩
theorem rd_repr : RdL K (fun xs H Q => ∃ i, xs = [.int i] ∧ i.natAbs.log2 < 1920 ∧ Q (.str (toString i)) H) (g1 reprO) := .one fun Z H v o a o' Q za r e k => by
  obtain ⟨i, ei, e⟩ := bind_some e
  obtain ⟨c, rfl⟩ := ite_ob e
  exact ⟨i, by rw [asI_rep r ei], of_decide_eq_true c, k.flat (.str _)⟩

/-! ### sorted -/
/-- sorted(xs) of a list of data -/
def rSortA (K : PySem.W.Frag) : List V → Hp → VK → Prop := fun vs H Q => ∃ (a : Addr) (xs : List V) (l : List PyData), vs = [.ref a] ∧ SqL K H a xs ∧ DpAll K H xs l ∧ SortOk l ∧ l.length ≤ sizeLine ∧
  ∀ ys p, H p = none → (∃ zs : List (PyData × V), zs.map (·.1) = isort l ∧ zs.map (·.2) = ys ∧ ∀ z ∈ zs, ∃ i : Nat, xs[i]? = some z.2 ∧ l[i]? = some z.1) → Q (.ref p) (upd H p (.lst ys))
theorem each_of {R : Value → (PyData × V) → Prop} : ∀ {us : List Value} {zs : List (PyData × V)}, PySem.W.EachIs R us zs → (∀ u z, R u z → RelV z.2 u) → Vals (zs.map (·.2)) us
  | _, _, .nil, _ => .nil
  | _, _, .cons h t, f => .cons (f _ _ h) (each_of t f)
theorem op_sortA (hu : X.A.units + 64 < cLine) : CallR X (.builtin "sorted") (rSortA X.K) := by
  intro pins s σ H vs us Q I r h
  obtain ⟨a, xs, l, rfl, hs, hd, ok, hz, q⟩ := h
  obtain ⟨its, rv, hl, _⟩ := I.list hs
  rw [Vals.ref1 r]
  -- the items with their data
  have hlen : xs.length = l.length := by
    have key : ∀ {vs : List V} {ds : List PyData}, DpAll X.K H vs ds → vs.length = ds.length := fun h => by
      induction h using DpAll.rec (motive_1 := fun _ _ _ => True) with
      | nil => rfl
      | cons _ _ _ ih => simp [ih]
      | _ => trivial
    exact key hd
  let zs : List (PyData × V) := l.zip xs
  have z1 : zs.map (·.1) = l := List.map_fst_zip (by omega)
  have z2 : zs.map (·.2) = xs := List.map_snd_zip (by omega)
  have each : ∀ {us : List Value} {vs : List V} {ds : List PyData}, Vals vs us → DpAll X.K H vs ds → PySem.W.EachIs (fun u z => RelV z.2 u ∧ Dp X.K H z.2 z.1) us (ds.zip vs) := by
    intro us vs ds rv hd
    induction rv generalizing ds with
    | nil => cases hd; exact .nil
    | cons r1 _ ih =>
      cases hd with
      | cons h1 h2 => exact .cons ⟨r1, h1⟩ (ih h2)
  have e0 := each rv hd
  have rd : PySem.W.EachIs (fun u z => ∃ as, Reads s.heap u z.1 as) its zs := e0.mono fun u z ⟨h1, h2⟩ => Dp.reads I z.1 z.2 u h2 h1
  have alk : PySem.W.AllAlike (zs.map fun z => z.1) := by
    rw [z1]; exact fun d m d' m' => ok.al d m d' m'
  have srt : PySem.W.Sortable (zs.map fun z => z.1) := by
    rw [z1]; exact ok.so
  have eR : PySem.W.EachIs (fun u z => RelV z.2 u) its zs := e0.mono fun u z h => h.1
  have hzl : zs.length ≤ sizeLine := by
    have : zs.length = l.length := by rw [← z1, List.length_map]
    omega
  have mz : ∀ z ∈ zs, ∃ i : Nat, xs[i]? = some z.2 ∧ l[i]? = some z.1 := fun z m => by
    obtain ⟨i, hi⟩ := List.mem_iff_getElem?.mp m
    have q := List.getElem?_zip_eq_some.mp hi
    exact ⟨i, q.2, q.1⟩
  refine PySem.W.sorted_data hl.isList eR rd alk srt hzl (fun z m => ?_) fun out ho eo => ?_
  · obtain ⟨i, _, hi⟩ := mz z m
    have := ok.dp z.1 (List.mem_of_getElem? hi)
    omega
  · have perm := List.mergeSort_perm zs (PySem.W.dataLe false fun z : PyData × V => z.1)
    obtain ⟨ep, he'⟩ := PyProof.Rows.sortedAll_at s.heap its out.toArray
    have hv : Vals ((zs.mergeSort (PySem.W.dataLe false fun z : PyData × V => z.1)).map (·.2)) out := each_of eo fun _ _ h => h
    have hl2 : ((zs.mergeSort (PySem.W.dataLe false fun z : PyData × V => z.1)).map (·.2)).length ≤ sizeLine := by
      rw [List.length_map, perm.length_eq]; exact hzl
    refine ⟨.ref _, upd H (s.heap.objs.size + 1) (.lst ((zs.mergeSort (PySem.W.dataLe false fun z : PyData × V => z.1)).map (·.2))), I.laid (t' := s.toks) (fun _ _ => PyProof.Rows.sortedAll_old) (Nat.le_succ _) ⟨hl2, out, ep, hv, he'⟩, rfl,
      q _ _ (I.hok.fresh (Nat.le_succ _)) ⟨_, ?_, rfl, fun z m => mz z (perm.mem_iff.mp m)⟩⟩
    have e1 := List.map_mergeSort (r := PySem.W.dataLe false fun z : PyData × V => z.1) (s := PySem.W.dataLe false fun d : PyData => d) (f := (·.1)) (l := zs) fun a _ b _ => rfl
    rw [e1, z1]
    exact sort_eq ok
theorem DpZs.of_ix {vs : List V} {l : List PyData} (h : DpZs K Z H vs l) : ∀ {zs : List (PyData × V)}, (∀ z ∈ zs, ∃ i : Nat, vs[i]? = some z.2 ∧ l[i]? = some z.1) → DpZs K Z H (zs.map (·.2)) (zs.map (·.1))
  | [], _ => .nil
  | z :: zs, m => by
    obtain ⟨i, h1, h2⟩ := m z List.mem_cons_self
    obtain ⟨d, h3, h4⟩ := h.at h1
    rw [h2] at h3
    cases h3
    exact .cons h4 (DpZs.of_ix h fun z hz => m z (List.mem_cons_of_mem _ hz))
theorem rd_sort : RdL K (rSortA K) (g1 sortO) := .one fun Z H v o a o' Q za r e k => by
  obtain ⟨l, el, e⟩ := bind_some e
  obtain ⟨c, rfl⟩ := ite_ob e
  obtain ⟨c1, c2⟩ := Bool.and_eq_true_iff.mp c
  obtain ⟨p, vs, rfl, s, t⟩ := asLst_rep r el
  refine ⟨p, vs, l, rfl, .of s, t.dp, okSort_ok c1, short_ok c2, fun ys q nq hz => ?_⟩
  obtain ⟨zs, h1, h2, h3⟩ := hz
  have d := t.of_ix h3
  rw [h1, h2] at d
  exact k.lst d za q nq
end
end DL

namespace DL
open PySem PySem.Spec PyProof.Rows L2

/-! ## what is walked -/
structure Kp (Z : Zs) (H : Hp) (Z' : Zs) (H' : Hp) : Prop where
  zu : ∀ b, Z b → Z' b
  zs : ∀ b o, Z b → H b = some o → H' b = some o
  ts : ∀ b xs, H b = some (.tup xs) → H' b = some (.tup xs)
section
variable {K : PySem.W.Frag} {Z Z' : Zs} {H H' : Hp} {fp fq : List Addr}
theorem Fr.kp (a : Fr H fp Z H' fq Z') (o : Own Z H fp) : Kp Z H Z' H' := ⟨a.zup, fun b u z e => a.same b u e (o.nzf b z), fun b xs e => a.same b _ e (o.nt b xs e)⟩
theorem DpZ.kp {v : V} {d : PyData} (h : DpZ K Z H v d) (k : Kp Z H Z' H') : DpZ K Z' H' v d := h.keep k.zu k.zs k.ts
theorem DpZs.kp {v : List V} {d : List PyData} (h : DpZs K Z H v d) (k : Kp Z H Z' H') : DpZs K Z' H' v d := h.keep k.zu k.zs k.ts
end
abbrev Rel1 := Zs → Hp → V → PyData → Prop
def IterR (R : Rel1) (Z : Zs) (H : Hp) (J : It) (ds : List PyData) : Prop := ∀ (i : Nat) (Z2 : Zs) (H2 : Hp), Kp Z H Z2 H2 → Za Z2 H2 →
  (∀ d, ds[i]? = some d → J.go i H2 ∧ ∀ x H3, J.yld i H2 x H3 → ∃ Z3, R Z3 H3 x d ∧ Fr H2 [] Z2 H3 [] Z3) ∧ (ds.length ≤ i → J.stop i H2)
abbrev IterOk (K : PySem.W.Frag) := IterR (DpZ K)
def tIR (K : PySem.W.Frag) (R : Rel1) (f : FD) : TI := fun σ H Rk => ∃ Z ρ fp ds, Stt K Z H σ ρ fp ∧ f ρ = some ds ∧ ∀ Z' H' J, IterR R Z' H' J ds → Fr H [] Z H' [] Z' → Rk J H'
abbrev tI (K : PySem.W.Frag) (f : FD) : TI := tIR K (DpZ K) f
abbrev DI (X : Cx) (tg e : Expr) (f : FD) : Prop := PI X tg e (tI X.K f)
theorem PI.imp {X : Cx} {tg e : Expr} {t t' : TI} (h : PI X tg e t) (k : ∀ σ H Q, t' σ H Q → t σ H Q) : PI X tg e t' := ⟨fun pins s σ H Q I q => h.run pins s σ H Q I (k σ H Q q)⟩
theorem PI.or {X : Cx} {tg e : Expr} {t t' : TI} (h : PI X tg e t) (h' : PI X tg e t') : PI X tg e (fun σ H R => t σ H R ∨ t' σ H R) := ⟨fun pins s σ H Q I q => q.elim (h.run pins s σ H Q I) (h'.run pins s σ H Q I)⟩
def dSeq : PyData → Option (List PyData)
  | .list l => some l
  | .tuple l => some l
  | _ => none
def iSeq (f : F1) : FD := fun ρ => (f ρ).bind fun o => (fz o).bind dSeq
def rangeD : Int → Nat → List PyData
  | _, 0 => []
  | i, n + 1 => .int i :: rangeD (i + 1) n
def rangeC (c : Int) : Int → Nat → List PyData
  | _, 0 => []
  | i, n + 1 => .int i :: rangeC c (i + c) n
def sm62 (i : Int) : Bool := decide (-(2 ^ 62) ≤ i) && decide (i < 2 ^ 62)
def iRng1 (fl : FL) : FD := fun ρ => (fl ρ).bind fun os => match os with
  | [x] => (asI x).bind fun j => if sm62 j then some (rangeD 0 j.toNat) else none
  | _ => none
def iRng2 (fl : FL) : FD := fun ρ => (fl ρ).bind fun os => match os with
  | [x, y] => (asI x).bind fun i => (asI y).bind fun j => if sm62 i && sm62 j then some (rangeD i (j - i).toNat) else none
  | _ => none
def iRng3 (fl : FL) : FD := fun ρ => (fl ρ).bind fun os => match os with
  | [x, y, z] => (asI x).bind fun i => (asI y).bind fun j => (asI z).bind fun c => if !decide (c = 0) && (decide (c.natAbs < 1073741824) && Builtin.Range.small i j c) then some (rangeC c i (Builtin.Range.rangeSize i j c).toNat) else none
  | _ => none
theorem rangeD_at : ∀ (n : Nat) (a : Int) (i : Nat) (d : PyData), (rangeD a n)[i]? = some d → i < n ∧ d = .int (a + i)
  | 0, _, _, _, h => by simp [rangeD] at h
  | n + 1, a, 0, d, h => by
    simp [rangeD] at h
    exact ⟨Nat.zero_lt_succ _, by rw [← h]; simp⟩
  | n + 1, a, i + 1, d, h => by
    obtain ⟨h1, h2⟩ := rangeD_at n (a + 1) i d (by simpa [rangeD] using h)
    refine ⟨Nat.succ_lt_succ h1, ?_⟩
    rw [h2]
    congr 1
    omega
theorem rangeD_len : ∀ (n : Nat) (a : Int), (rangeD a n).length = n
  | 0, _ => rfl
  | n + 1, a => by simp [rangeD, rangeD_len n]
theorem rangeC_at : ∀ (n : Nat) (c a : Int) (i : Nat) (d : PyData), (rangeC c a n)[i]? = some d → i < n ∧ d = .int (a + (i : Nat) * c)
  | 0, _, _, _, _, h => by simp [rangeC] at h
  | n + 1, c, a, 0, d, h => by
    simp [rangeC] at h
    exact ⟨Nat.zero_lt_succ _, by rw [← h]; simp⟩
  | n + 1, c, a, i + 1, d, h => by
    obtain ⟨h1, h2⟩ := rangeC_at n c (a + c) i d (by simpa [rangeC] using h)
    refine ⟨Nat.succ_lt_succ h1, ?_⟩
    rw [h2]
    congr 1
    have : ((i + 1 : Nat) : Int) * c = (i : Int) * c + c := by rw [show ((i + 1 : Nat) : Int) = (i : Int) + 1 by omega, Int.add_mul]; omega
    omega
theorem rangeC_len : ∀ (n : Nat) (c a : Int), (rangeC c a n).length = n
  | 0, _, _ => rfl
  | n + 1, c, a => by simp [rangeC, rangeC_len n]
section
variable {X : Cx} {tg e : Expr} {f : F1} {fl : FL} {p pos : Pos}
theorem iter_l {K : PySem.W.Frag} {Z : Zs} {H : Hp} {a : Addr} {vs : List V} {l : List PyData} (hz : Z a) (hh : H a = some (.lst vs)) (t : DpZs K Z H vs l) : IterOk K Z H (Itl K a) l := fun i Z2 H2 k za => by
  have h2 : SqL K H2 a vs := .of (k.zs _ _ hz hh)
  refine ⟨fun d hd => ?_, fun hl => ⟨vs, h2, by rw [t.length]; exact hl⟩⟩
  obtain ⟨v, h3, h4⟩ := t.atD hd
  refine ⟨⟨vs, v, h2, h3⟩, fun x H3 y => ?_⟩
  obtain ⟨rfl, hy⟩ := y
  have e := (hy vs h2).symm.trans h3
  cases e
  exact ⟨Z2, h4.kp k, .refl⟩
theorem iter_t {K : PySem.W.Frag} {Z : Zs} {H : Hp} {a : Addr} {vs : List V} {l : List PyData} (hh : ∀ Z2 H2, Kp Z H Z2 H2 → SqT K H2 a vs) (t : DpZs K Z H vs l) : IterOk K Z H (Itt K a) l := fun i Z2 H2 k za => by
  have h2 : SqT K H2 a vs := hh Z2 H2 k
  refine ⟨fun d hd => ?_, fun hl => ⟨vs, h2, by rw [t.length]; exact hl⟩⟩
  obtain ⟨v, h3, h4⟩ := t.atD hd
  refine ⟨⟨vs, v, h2, h3⟩, fun x H3 y => ?_⟩
  obtain ⟨rfl, hy⟩ := y
  have e := (hy vs h2).symm.trans h3
  cases e
  exact ⟨Z2, h4.kp k, .refl⟩
theorem i_seq (h : DP X e f) : DI X tg e (iSeq f) := PI.imp (DL.PI.or (pi_list h) (pi_tup h)) fun σ H R q => by
  obtain ⟨Z, ρ, fp, ds, S, e, k⟩ := q
  obtain ⟨o, eo, e⟩ := bind_some e
  obtain ⟨d, ed, e⟩ := bind_some e
  cases d <;> first | (cases e; done) | skip
  · rename_i l
    cases e
    refine .inl ⟨Z, ρ, fp, o, S, eo, fun Z1 H1 v1 g1 r1 o1 a1 => ?_⟩
    have dz := r1.frz ed
    cases dz with
    | lst z h t => exact ⟨_, rfl, ⟨_, .of h⟩, k _ H1 _ (iter_l z h t) (a1.frz0 o1)⟩
  · rename_i l
    cases e
    refine .inr ⟨Z, ρ, fp, o, S, eo, fun Z1 H1 v1 g1 r1 o1 a1 => ?_⟩
    have dz := r1.frz ed
    cases dz with
    | tup h t => exact ⟨_, rfl, ⟨_, .of h⟩, k _ H1 _ (iter_t (fun _ _ kk => .of (kk.ts _ _ h)) t) (a1.frz0 o1)⟩
theorem iter_r {K : PySem.W.Frag} {Z : Zs} {H : Hp} {a : Int} {n : Nat} : IterOk K Z H (Itr a n) (rangeD a n) := fun i Z2 H2 k za => by
  refine ⟨fun d hd => ?_, fun hl => by rw [rangeD_len] at hl; exact hl⟩
  obtain ⟨h1, rfl⟩ := rangeD_at n a i d hd
  refine ⟨h1, fun x H3 y => ?_⟩
  obtain ⟨rfl, rfl⟩ := y
  exact ⟨Z2, .int _, .refl⟩
theorem iter_c {K : PySem.W.Frag} {Z : Zs} {H : Hp} {a c : Int} {n : Nat} : IterOk K Z H (Itc a c n) (rangeC c a n) := fun i Z2 H2 k za => by
  refine ⟨fun d hd => ?_, fun hl => by rw [rangeC_len] at hl; exact hl⟩
  obtain ⟨h1, rfl⟩ := rangeC_at n c a i d hd
  refine ⟨h1, fun x H3 y => ?_⟩
  obtain ⟨rfl, rfl⟩ := y
  exact ⟨Z2, .int _, .refl⟩
theorem sm62_ok {i : Int} (h : sm62 i = true) : -(2 ^ 62) ≤ i ∧ i < 2 ^ 62 := by
  obtain ⟨a, b⟩ := Bool.and_eq_true_iff.mp h
  exact ⟨of_decide_eq_true a, of_decide_eq_true b⟩
theorem ite_ds {c : Bool} {o o' : List PyData} (h : (if c = true then some o else none) = some o') : c = true ∧ o = o' := by
  cases c with
  | true => exact ⟨rfl, Option.some.inj h⟩
  | false => cases h
variable {a b c : Expr}
theorem i_range1 (hg : Gl X "range") (hm : X.mg "range" = none) (ha : PRA X [a] fl) (hs : starEach [a] X.env = [(false, eval a X.env)] := by rfl) : DI X tg (.Call (.Name "range" p) [a] [] pos) (iRng1 fl) := PI.imp (pi_range1 hg hm ha hs) fun σ H R q => by
  obtain ⟨Z, ρ, fp, ds, S, e, k⟩ := q
  obtain ⟨os, eo, e⟩ := bind_some e
  split at e
  · rename_i x
    obtain ⟨j, ej, e⟩ := bind_some e
    obtain ⟨c, rfl⟩ := ite_ds e
    obtain ⟨b1, b2⟩ := sm62_ok c
    refine ⟨Z, ρ, fp, _, S, eo, fun Z1 H1 vs r1 a1 => ?_⟩
    cases r1 with
    | cons r1 t =>
      cases t
      exact ⟨j, by rw [asI_rep r1 ej], b1, b2, k Z1 H1 _ iter_r a1⟩
  · cases e
theorem i_range2 (hg : Gl X "range") (hm : X.mg "range" = none) (ha : PRA X [a, b] fl) (hs : starEach [a, b] X.env = [(false, eval a X.env), (false, eval b X.env)] := by rfl) (hs2 : starEach [b] X.env = [(false, eval b X.env)] := by rfl) : DI X tg (.Call (.Name "range" p) [a, b] [] pos) (iRng2 fl) := PI.imp (pi_range2 hg hm ha hs hs2) fun σ H R q => by
  obtain ⟨Z, ρ, fp, ds, S, e, k⟩ := q
  obtain ⟨os, eo, e⟩ := bind_some e
  split at e
  · rename_i x y
    obtain ⟨i, ei, e⟩ := bind_some e
    obtain ⟨j, ej, e⟩ := bind_some e
    obtain ⟨c, rfl⟩ := ite_ds e
    obtain ⟨c1, c2⟩ := Bool.and_eq_true_iff.mp c
    obtain ⟨b1, b2⟩ := sm62_ok c1
    obtain ⟨b3, b4⟩ := sm62_ok c2
    refine ⟨Z, ρ, fp, _, S, eo, fun Z1 H1 vs r1 a1 => ?_⟩
    cases r1 with
    | cons r1 t =>
      cases t with
      | cons r2 t =>
        cases t
        exact ⟨i, j, by rw [asI_rep r1 ei, asI_rep r2 ej], ⟨b1, b2, b3, b4⟩, k Z1 H1 _ iter_r a1⟩
  · cases e
end

/-! ## targets -/
structure KpB (B : List Nat) (σ σ' : L2.St) : Prop where
  len : σ'.length = σ.length
  at_ : ∀ i ∈ B, σ'[i]? = σ[i]?
theorem KpB.rfl {B : List Nat} {σ : L2.St} : KpB B σ σ := ⟨Eq.refl _, fun _ _ => Eq.refl _⟩
theorem KpB.trans {B : List Nat} {σ σ1 σ2 : L2.St} (k : KpB B σ σ1) (k' : KpB B σ1 σ2) : KpB B σ σ2 := ⟨k'.len.trans k.len, fun i m => (k'.at_ i m).trans (k.at_ i m)⟩
abbrev FT := PyData → Env → Option Env
/-- data put to a target -/
def tGR (K : PySem.W.Frag) (R : Rel1) (B : List Nat) (f : FT) : TG := fun v σ H Q => ∃ Z ρ fp d ρ', Stt K Z H σ ρ fp ∧ R Z H v d ∧ f d ρ = some ρ' ∧ ∀ σ' fp', Stt K Z H σ' ρ' fp' → (∀ b ∈ fp', b ∈ fp) → KpB B σ σ' → Q σ' H
abbrev tG (K : PySem.W.Frag) (B : List Nat) (f : FT) : TG := tGR K (DpZ K) B f
abbrev DG (X : Cx) (B : List Nat) (tg : Expr) (f : FT) : Prop := PG X tg (tG X.K B f)
abbrev FTs := List PyData → Env → Option Env
def tGs (K : PySem.W.Frag) (B : List Nat) (f : FTs) : TGs := fun v σ H Q => ∃ Z ρ fp d ρ', Stt K Z H σ ρ fp ∧ DpZs K Z H v d ∧ f d ρ = some ρ' ∧ ∀ σ' fp', Stt K Z H σ' ρ' fp' → (∀ b ∈ fp', b ∈ fp) → KpB B σ σ' → Q σ' H
abbrev DGs (X : Cx) (B : List Nat) (tg : List Expr) (f : FTs) : Prop := PGs X tg (tGs X.K B f)
section
variable {K : PySem.W.Frag} {Z : Zs} {H : Hp}
/-- a slot gets an object -/
theorem ER.set {σ : L2.St} {ρ : Env} {fp : List Addr} (h : ER K Z H σ ρ fp) {v : V} {o : Ob} {g : List Addr} (r : RepO K Z H v o g) : ∀ (i : Nat), (g ++ fp).Nodup → ∃ fp', ER K Z H (σ.set i (some v)) (ρ.set i (some o)) fp' ∧ (∀ b ∈ fp', b ∈ g ++ fp) ∧ fp'.Nodup := by
  induction h with
  | nil => intro i nd; exact ⟨[], .nil, fun _ m => (nomatch m), List.nodup_nil⟩
  | @no x σ ρ fp h ih =>
    intro i nd
    cases i with
    | zero => exact ⟨g ++ fp, .one r h, fun b m => m, nd⟩
    | succ i =>
      obtain ⟨fp', h1, h2, h3⟩ := ih i nd
      exact ⟨fp', .no h1, h2, h3⟩
  | @one w o' g' σ ρ fp r' h ih =>
    intro i nd
    obtain ⟨n1, n2, n3⟩ := List.nodup_append.mp nd
    obtain ⟨n4, n5, n6⟩ := List.nodup_append.mp n2
    have nd' : (g ++ fp).Nodup := List.nodup_append.mpr ⟨n1, n5, fun a m b m' => n3 a m b (List.mem_append_right _ m')⟩
    cases i with
    | zero =>
      refine ⟨g ++ fp, .one r h, fun b m => ?_, nd'⟩
      rcases List.mem_append.mp m with m | m
      · exact List.mem_append_left _ m
      · exact List.mem_append_right _ (List.mem_append_right _ m)
    | succ i =>
      obtain ⟨fp', h1, h2, h3⟩ := ih i nd'
      refine ⟨g' ++ fp', .one r' h1, fun b m => ?_, List.nodup_append.mpr ⟨n4, h3, fun a m b m' e => ?_⟩⟩
      · rcases List.mem_append.mp m with m | m
        · exact List.mem_append_right _ (List.mem_append_left _ m)
        · rcases List.mem_append.mp (h2 b m) with m | m
          · exact List.mem_append_left _ m
          · exact List.mem_append_right _ (List.mem_append_right _ m)
      · subst e
        rcases List.mem_append.mp (h2 a m') with m' | m'
        · exact n3 a m' a (List.mem_append_left _ m) rfl
        · exact n6 a m a m' rfl
theorem Own.sub {fp fp' : List Addr} (h : Own Z H fp) (s : ∀ b ∈ fp', b ∈ fp) (nd : fp'.Nodup) : Own Z H fp' := ⟨nd, fun a m => h.nz a (s a m), fun a m => h.al a (s a m)⟩
theorem Stt.set {σ : L2.St} {ρ : Env} {fp g : List Addr} (S : Stt K Z H σ ρ fp) {v : V} {o : Ob} (r : RepO K Z H v o g) (ow : Own Z H (g ++ fp)) (i : Nat) : ∃ fp', Stt K Z H (σ.set i (some v)) (ρ.set i (some o)) fp' ∧ ∀ b ∈ fp', b ∈ g ++ fp := by
  obtain ⟨fp', h1, h2, h3⟩ := S.er.set r i ow.nd
  exact ⟨fp', ⟨h1, ow.sub h2 h3, S.za⟩, h2⟩
theorem kpB_set {B : List Nat} {σ : L2.St} {i : Nat} {x : Option V} (h : i ∉ B) : KpB B σ (σ.set i x) := ⟨by simp, fun j m => by
  have : i ≠ j := fun e => h (e ▸ m)
  rw [List.getElem?_set_ne this]⟩
end
def gN (i : Nat) : FT := fun d ρ => some (ρ.set i (some (.fr d)))
def gT (n : Nat) (f : FTs) : FT := fun d ρ => match d with
  | .tuple l => if Nat.beq l.length n then f l ρ else none
  | _ => none
def gNil' : FTs := fun ds ρ => match ds with
  | [] => some ρ
  | _ => none
def gCons' (f : FT) (fs : FTs) : FTs := fun ds ρ => match ds with
  | d :: r => (f d ρ).bind fun ρ' => fs r ρ'
  | [] => none
section
variable {X : Cx} {B : List Nat} {pos : Pos} {e : Expr} {es : List Expr} {f : FT} {fs : FTs}
theorem PG.imp {X : Cx} {tg : Expr} {t t' : TG} (h : PG X tg t) (k : ∀ v σ H Q, t' v σ H Q → t v σ H Q) : PG X tg t' := ⟨fun pins s σ H v u Q I r q => h.run pins s σ H v u Q I r (k v σ H Q q)⟩
theorem PGs.imp {X : Cx} {tg : List Expr} {t t' : TGs} (h : PGs X tg t) (k : ∀ v σ H Q, t' v σ H Q → t v σ H Q) : PGs X tg t' := ⟨fun pins s σ H v u Q I r q => h.run pins s σ H v u Q I r (k v σ H Q q)⟩
theorem g_name (i : Nat) {x : Str} (hN : X.N.Nodup) (hi : X.N[i]? = some x := by rfl) (hx : Loc X.env.scope x := by first | exact .inl rfl | exact .inr rfl) (hB : i ∉ B := by decide) (hf : X.fn x = true ∨ X.env.scope.names.lookup x = some .local := by first | exact .inl rfl | exact .inr rfl) : DG X B (.Name x pos) (gN i) := PG.imp (pg_name hN hi hx hf) fun v σ H Q h => by
  obtain ⟨Z, ρ, fp, d, ρ', S, dz, e, k⟩ := h
  cases e
  obtain ⟨fp', S', hs⟩ := S.set (g := []) (.fr dz) (by simpa using S.own) i
  exact k _ fp' S' (fun b m => by simpa using hs b m) (kpB_set hB)
theorem g_nil : DGs X B [] gNil' := PGs.imp pgs_nil fun v σ H Q h => by
  obtain ⟨Z, ρ, fp, d, ρ', S, dz, e, k⟩ := h
  cases dz with
  | nil => cases e; exact ⟨rfl, k σ fp S (fun b m => m) .rfl⟩
  | cons _ _ => cases e
theorem g_cons (h1 : DG X B e f) (h2 : DGs X B es fs) (hs : (assignEach (e :: es) X.env).map (·.2) = assign e X.env :: (assignEach es X.env).map (·.2) := by rfl) : DGs X B (e :: es) (gCons' f fs) := PGs.imp (pgs_cons h1 h2 hs) fun v σ H Q h => by
  obtain ⟨Z, ρ, fp, d, ρ', S, dz, e, k⟩ := h
  cases dz with
  | nil => cases e
  | cons h t =>
    obtain ⟨ρ1, e1, e⟩ := bind_some e
    exact ⟨_, _, rfl, Z, ρ, fp, _, ρ1, S, h, e1, fun σ1 fp1 S1 s1 k1 => ⟨Z, ρ1, fp1, _, ρ', S1, t, e, fun σ2 fp2 S2 s2 k2 => k σ2 fp2 S2 (fun b m => s1 b (s2 b m)) (k1.trans k2)⟩⟩
theorem g_tup {k n : Nat} (hc : X.calm = true) (h : DGs X B es fs) (hn : (assignEach es X.env).length = n := by rfl) (hst : (assignEach es X.env).findIdx? (·.1) = none := by rfl) : DG X B (.Tuple es k pos) (gT n fs) := PG.imp (pg_tup hc h hn hst) fun v σ H Q h => by
  obtain ⟨Z, ρ, fp, d, ρ', S, dz, e, k⟩ := h
  cases d <;> first | (cases e; done) | skip
  rename_i l
  have e : (if Nat.beq l.length n = true then fs l ρ else none) = some ρ' := e
  split at e
  · rename_i c
    obtain ⟨a, xs, rfl, s, t⟩ := dz.sqt (a := 0)
    exact ⟨a, xs, rfl, s, by rw [t.length]; exact Nat.eq_of_beq_eq_true c, Z, ρ, fp, l, ρ', S, t, e, k⟩
  · cases e
end

/-! ## statements -/
inductive Out where
  | nx (ρ : Env) | rt (o : Ob) (ρ : Env) | bk (ρ : Env) | ct (ρ : Env)
abbrev FS := Env → Option Out
def OutK (K : PySem.W.Frag) (B : List Nat) (Z : Zs) (H : Hp) (σ : L2.St) (fp : List Addr) (D : Ends) : Out → Prop
  | .nx ρ' => ∀ Z' H' σ' fp', Stt K Z' H' σ' ρ' fp' → Fr H fp Z H' fp' Z' → KpB B σ σ' → D.nx σ' H'
  | .bk ρ' => ∀ Z' H' σ' fp', Stt K Z' H' σ' ρ' fp' → Fr H fp Z H' fp' Z' → KpB B σ σ' → D.bk σ' H'
  | .ct ρ' => ∀ Z' H' σ' fp', Stt K Z' H' σ' ρ' fp' → Fr H fp Z H' fp' Z' → KpB B σ σ' → D.ct σ' H'
  | .rt o ρ' => ∀ Z' H' σ' fp' v g, Stt K Z' H' σ' ρ' fp' → RepO K Z' H' v o g → Own Z' H' (g ++ fp') → Fr H fp Z H' (g ++ fp') Z' → KpB B σ σ' → D.rt v H'
def tS (K : PySem.W.Frag) (B : List Nat) (f : FS) : TS := fun D σ H => ∃ Z ρ fp r, Stt K Z H σ ρ fp ∧ f ρ = some r ∧ OutK K B Z H σ fp D r
abbrev DS (X : Cx) (B : List Nat) (st : Stmt) (f : FS) : Prop := PS X st (tS X.K B f)
abbrev DSs (X : Cx) (B : List Nat) (st : List Stmt) (f : FS) : Prop := PSs X st (tS X.K B f)
theorem PS.imp {X : Cx} {e : Stmt} {t t' : TS} (h : PS X e t) (k : ∀ D σ H, t' D σ H → t D σ H) : PS X e t' := ⟨fun pins s σ H Q I q => h.run pins s σ H Q I (k Q σ H q)⟩
theorem PSs.imp {X : Cx} {e : List Stmt} {t t' : TS} (h : PSs X e t) (k : ∀ D σ H, t' D σ H → t D σ H) : PSs X e t' := ⟨fun pins s σ H Q I q => h.run pins s σ H Q I (k Q σ H q)⟩
section
variable {K : PySem.W.Frag} {B : List Nat} {Z Z1 : Zs} {H H1 : Hp} {σ σ1 : L2.St} {fp fp1 : List Addr} {D : Ends}
theorem OutK.on {r : Out} (h : OutK K B Z H σ fp D r) (a : Fr H fp Z H1 fp1 Z1) (k : KpB B σ σ1) : OutK K B Z1 H1 σ1 fp1 D r := by
  cases r with
  | nx ρ' => exact fun Z' H' σ' fp' S a' k' => h Z' H' σ' fp' S (a.trans a') (k.trans k')
  | bk ρ' => exact fun Z' H' σ' fp' S a' k' => h Z' H' σ' fp' S (a.trans a') (k.trans k')
  | ct ρ' => exact fun Z' H' σ' fp' S a' k' => h Z' H' σ' fp' S (a.trans a') (k.trans k')
  | rt o ρ' => exact fun Z' H' σ' fp' v g S r o' a' k' => h Z' H' σ' fp' v g S r o' (a.trans a') (k.trans k')
/-- behind something pure -/
theorem OutK.still {ρ : Env} {r : Out} (h : OutK K B Z H σ fp D r) (S : Stt K Z H σ ρ fp) (a : Fr H [] Z H1 [] Z1) : OutK K B Z1 H1 σ fp D r := h.on (by
  have q := a.aside (g := fp)
  rw [List.append_nil] at q
  exact q) .rfl
end
def fSeq (f g : FS) : FS := fun ρ => (f ρ).bind fun r => match r with
  | .nx ρ' => g ρ'
  | r => some r
def fNx : FS := fun ρ => some (.nx ρ)
def fRet (f : F1) : FS := fun ρ => (f ρ).bind fun o => some (.rt o ρ)
def fRetN : FS := fun ρ => some (.rt (.fr .none) ρ)
def fSet (i : Nat) (f : F1) : FS := fun ρ => (f ρ).bind fun o => some (.nx (ρ.set i (some o)))
def fIf (c : FB) (f g : FS) : FS := fun ρ => (c ρ).bind fun b => if b then f ρ else g ρ
def fFrz (i : Nat) (f : FS) : FS := fun ρ => match ρ[i]? with
  | some (some o) => (fz o).bind fun d => f (ρ.set i (some (.fr d)))
  | _ => none
def forL (ga : FT) (fb : FS) : List PyData → Env → Option Out
  | [], ρ => some (.nx ρ)
  | d :: ds, ρ => (ga d ρ).bind fun ρ1 => (fb ρ1).bind fun r => match r with
    | .nx ρ2 => forL ga fb ds ρ2
    | .ct ρ2 => forL ga fb ds ρ2
    | .bk ρ2 => some (.nx ρ2)
    | .rt o ρ2 => some (.rt o ρ2)
def fFor (fi : FD) (ga : FT) (fb : FS) : FS := fun ρ => (fi ρ).bind fun ds => forL ga fb ds ρ
def whL (c : FB) (fb : FS) : Nat → Env → Option Out
  | 0, _ => none
  | n + 1, ρ => (c ρ).bind fun b => if b then (fb ρ).bind fun r => match r with
    | .nx ρ2 => whL c fb n ρ2
    | .ct ρ2 => whL c fb n ρ2
    | .bk ρ2 => some (.nx ρ2)
    | .rt o ρ2 => some (.rt o ρ2)
    else some (.nx ρ)
/-- a while, of so many turns at most -/
def fWh (n : Env → Nat) (c : FB) (fb : FS) : FS := fun ρ => whL c fb (n ρ) ρ
section
variable {X : Cx} {B : List Nat} {pos : Pos} {st : Stmt} {sts : List Stmt} {f g : FS} {e : Expr} {fe : F1} {c : FB}
theorem s_nil : DSs X B [] fNx := PSs.imp pss_nil fun D σ H h => by
  obtain ⟨Z, ρ, fp, r, S, e, k⟩ := h
  cases e
  exact k Z H σ fp S .refl .rfl
theorem s_one (h : DS X B st f) : DSs X B [st] f := pss_one h
theorem s_cons (h1 : DS X B st f) (h2 : DSs X B sts g) : DSs X B (st :: sts) (fSeq f g) := PSs.imp (pss_cons h1 h2) fun D σ H h => by
  obtain ⟨Z, ρ, fp, r, S, e, k⟩ := h
  obtain ⟨r1, e1, e⟩ := bind_some e
  refine ⟨Z, ρ, fp, r1, S, e1, ?_⟩
  cases r1 with
  | nx ρ1 => exact fun Z' H' σ' fp' S' a' k' => ⟨Z', ρ1, fp', r, S', e, k.on a' k'⟩
  | bk ρ1 => cases e; exact k
  | ct ρ1 => cases e; exact k
  | rt o ρ1 => cases e; exact k
theorem s_pass : DS X B (.Pass pos) fNx := PS.imp ps_pass fun D σ H h => by
  obtain ⟨Z, ρ, fp, r, S, e, k⟩ := h
  cases e
  exact k Z H σ fp S .refl .rfl
theorem s_brk : DS X B (.Break pos) (fun ρ => some (.bk ρ)) := PS.imp ps_break fun D σ H h => by
  obtain ⟨Z, ρ, fp, r, S, e, k⟩ := h
  cases e
  exact k Z H σ fp S .refl .rfl
theorem s_cnt : DS X B (.Continue pos) (fun ρ => some (.ct ρ)) := PS.imp ps_continue fun D σ H h => by
  obtain ⟨Z, ρ, fp, r, S, e, k⟩ := h
  cases e
  exact k Z H σ fp S .refl .rfl
/-- what a pure, separate value is beside the locals -/
theorem beside {K : PySem.W.Frag} {Z Z1 : Zs} {H H1 : Hp} {σ : L2.St} {ρ : Env} {fp g : List Addr} (S : Stt K Z H σ ρ fp) (o1 : Own Z1 H1 g) (a1 : Fr H [] Z H1 g Z1) : Stt K Z1 H1 σ ρ fp ∧ Own Z1 H1 (g ++ fp) ∧ Fr H fp Z H1 (g ++ fp) Z1 := by
  have o2 : Own Z1 H1 (fp ++ g) := S.own.fresh a1 o1
  have a2 : Fr H fp Z H1 (fp ++ g) Z1 := by
    have q := a1.aside (g := fp)
    rw [List.append_nil] at q
    exact q
  exact ⟨S.still a1, o2.swap, a2.less fun b m => List.mem_append.mpr (List.mem_append.mp m).symm⟩
theorem s_ret (h : DP X e fe) : DS X B (.Return (some e) pos) (fRet fe) := PS.imp (ps_ret h) fun D σ H h => by
  obtain ⟨Z, ρ, fp, r, S, e, k⟩ := h
  obtain ⟨o, eo, e⟩ := bind_some e
  cases e
  refine ⟨Z, ρ, fp, o, S, eo, fun Z1 H1 v1 g1 r1 o1 a1 => ?_⟩
  obtain ⟨S1, ow, fr⟩ := beside S o1 a1
  exact k Z1 H1 σ fp v1 g1 S1 r1 ow fr .rfl
theorem s_retN : DS X B (.Return none pos) fRetN := PS.imp ps_retN fun D σ H h => by
  obtain ⟨Z, ρ, fp, r, S, e, k⟩ := h
  cases e
  exact k Z H σ fp .non [] S (.fr .non) (by simpa using S.own) .refl .rfl
theorem s_set (i : Nat) {x : Str} {pos' : Pos} (hN : X.N.Nodup) (he : DP X e fe) (hi : X.N[i]? = some x := by rfl) (hx : Loc X.env.scope x := by first | exact .inl rfl | exact .inr rfl) (hB : i ∉ B := by decide) (hs : swapsWith e (some (.Name x pos')) pos.line X.env = pure false := by rfl) (hf : X.fn x = true ∨ X.env.scope.names.lookup x = some .local := by first | exact .inl rfl | exact .inr rfl) :
    DS X B (.Assign [.Name x pos'] e pos) (fSet i fe) := PS.imp (ps_set hN hi hx he hs hf) fun D σ H h => by
  obtain ⟨Z, ρ, fp, r, S, e, k⟩ := h
  obtain ⟨o, eo, e⟩ := bind_some e
  cases e
  refine ⟨Z, ρ, fp, o, S, eo, fun Z1 H1 v1 g1 r1 o1 a1 => ?_⟩
  obtain ⟨S1, ow, fr⟩ := beside S o1 a1
  obtain ⟨fp', S2, hs⟩ := S1.set r1 ow i
  exact k Z1 H1 _ fp' S2 (fr.less hs) (kpB_set hB)
theorem s_if {a b : List Stmt} {ce : Expr} (hc : TD X ce c) (ha : DSs X B a f) (hb : DSs X B b g) : DS X B (.If ce a b pos) (fIf c f g) := PS.imp (ps_if hc ha hb) fun D σ H h => by
  obtain ⟨Z, ρ, fp, r, S, e, k⟩ := h
  obtain ⟨b, eb, e⟩ := bind_some e
  refine ⟨Z, ρ, fp, b, S, eb, fun Z1 H1 a1 => ?_⟩
  cases b with
  | true =>
    rw [if_pos rfl] at e ⊢
    exact ⟨Z1, ρ, fp, r, S.still a1, e, k.still S a1⟩
  | false =>
    rw [if_neg Bool.false_ne_true] at e ⊢
    exact ⟨Z1, ρ, fp, r, S.still a1, e, k.still S a1⟩
theorem RepO.up {K : PySem.W.Frag} {Z Z' : Zs} {H : Hp} {v : V} {o : Ob} {g : List Addr} (h : RepO K Z H v o g) (zu : ∀ b, Z b → Z' b) : RepO K Z' H v o g := by
  cases h with
  | fr d => exact .fr (d.keep zu (fun _ _ _ q => q) fun _ _ q => q)
  | lst e d => exact .lst e (d.keep zu (fun _ _ _ q => q) fun _ _ q => q)
  | ll e d =>
    refine .ll e ?_
    clear e
    induction d with
    | nil => exact .nil
    | cons e d _ ih => exact .cons e (d.keep zu (fun _ _ _ q => q) fun _ _ q => q) ih
  | acc e d hn => exact .acc e (d.keep zu (fun _ _ _ q => q) fun _ _ q => q) hn
  | dk e d => exact .dk e (d.keep zu (fun _ _ _ q => q) fun _ _ q => q)
  | dt e d => exact .dt e (d.keep zu (fun _ _ _ q => q) fun _ _ q => q)
  | scr e => exact .scr (e.imp (fun ⟨z, e⟩ => ⟨zu _ z, e⟩) id)
  | src e d => exact .src e d
theorem ER.up {K : PySem.W.Frag} {Z Z' : Zs} {H : Hp} {σ : L2.St} {ρ : Env} {fp : List Addr} (h : ER K Z H σ ρ fp) (zu : ∀ b, Z b → Z' b) : ER K Z' H σ ρ fp := by
  induction h with
  | nil => exact .nil
  | no _ ih => exact .no ih
  | one r _ ih => exact .one (r.up zu) ih
/-- a local's object is never to be written again -/
theorem ER.frz {K : PySem.W.Frag} {Z : Zs} {H : Hp} {σ : L2.St} {ρ : Env} {fp : List Addr} (h : ER K Z H σ ρ fp) : ∀ (i : Nat) {o : Ob} {d : PyData}, fp.Nodup → ρ[i]? = some (some o) → fz o = some d → ∃ (g fp' : List Addr), (∀ b ∈ g, b ∈ fp) ∧ (∀ b ∈ fp', b ∈ fp) ∧ (∀ b ∈ fp', b ∉ g) ∧ fp'.Nodup ∧ ER K (fun b => Z b ∨ b ∈ g) H σ (ρ.set i (some (.fr d))) fp' := by
  induction h with
  | nil => intro i o d nd e ed; simp at e
  | @no x σ ρ fp h ih =>
    intro i o d nd e ed
    cases i with
    | zero => simp at e
    | succ i =>
      obtain ⟨g, fp', h1, h2, h3, h4, h5⟩ := ih i nd (by simpa using e) ed
      exact ⟨g, fp', h1, h2, h3, h4, .no h5⟩
  | @one w o' g' σ ρ fp r' h ih =>
    intro i o d nd e ed
    obtain ⟨n1, n2, n3⟩ := List.nodup_append.mp nd
    cases i with
    | zero =>
      simp at e
      subst e
      exact ⟨g', fp, fun b m => List.mem_append_left _ m, fun b m => List.mem_append_right _ m, fun b m m' => n3 b m' b m rfl, n2, .one (g := []) (.fr (r'.frz ed)) (h.up fun _ z => .inl z)⟩
    | succ i =>
      obtain ⟨g, fp', h1, h2, h3, h4, h5⟩ := ih i n2 (by simpa using e) ed
      refine ⟨g, g' ++ fp', fun b m => List.mem_append_right _ (h1 b m), fun b m => ?_, fun b m => ?_, List.nodup_append.mpr ⟨n1, h4, fun a m b m' => n3 a m b (h2 b m')⟩, .one (r'.up fun _ z => .inl z) h5⟩
      · rcases List.mem_append.mp m with m | m
        · exact List.mem_append_left _ m
        · exact List.mem_append_right _ (h2 b m)
      · rcases List.mem_append.mp m with m | m
        · exact fun m' => n3 b m b (h1 b m') rfl
        · exact h3 b m
theorem s_frz (i : Nat) (h : DSs X B sts f) : DSs X B sts (fFrz i f) := PSs.imp h fun D σ H h => by
  obtain ⟨Z, ρ, fp, r, S, e, k⟩ := h
  unfold fFrz at e
  split at e
  · rename_i o eo
    obtain ⟨d, ed, e⟩ := bind_some e
    obtain ⟨g, fp', h1, h2, h3, h4, h5⟩ := S.er.frz i S.own.nd eo ed
    have a : Fr H fp Z H fp' (fun b => Z b ∨ b ∈ g) := ⟨fun _ _ q _ => q, fun _ z => .inl z, fun b o q z => z.elim .inl fun m => .inr (h1 b m), fun b o q m => h2 b m, fun q b z => z.elim (q b) fun m => let ⟨o, q, _⟩ := S.own.al b (h1 b m); ⟨o, q⟩⟩
    have S' : Stt X.K (fun b => Z b ∨ b ∈ g) H σ (ρ.set i (some (.fr d))) fp' := ⟨h5, ⟨h4, fun b m z => z.elim (S.own.nz b (h2 b m)) (h3 b m), fun b m => S.own.al b (h2 b m)⟩, a.zal S.za⟩
    exact ⟨_, _, fp', r, S', e, k.on a .rfl⟩
  · cases e
/-- for -/
theorem s_forR {R : Rel1} {tg iter : Expr} {body : List Stmt} {fi : FD} {ga : FT} {fb : FS} (hp : PassesOwn (model X.prog X.w) X.A X.env X.xe) (hc : X.calm = true) (hi : PI X tg iter (tIR X.K R fi)) (hg : PG X tg (tGR X.K R B ga)) (hb : DSs X B body fb)
    (hs : ∀ x, foldedSetIterable iter X.env x = pure x := by intro _; rfl) : DS X B (.For tg iter body [] pos) (fFor fi ga fb) := PS.imp (ps_for hp hc hi hg hb hs) fun D σ H h => by
  obtain ⟨Z, ρ, fp, r, S, e, k⟩ := h
  obtain ⟨ds, ed, e⟩ := bind_some e
  refine ⟨Z, ρ, fp, ds, S, ed, fun Z1 H1 J it a1 => ?_⟩
  have S1 := S.still a1
  have k1 := k.still S a1
  refine ⟨fun i m σ2 H2 => ∃ Z2 ρ2 fp2, m = ds.length - i ∧ i ≤ ds.length ∧ Stt X.K Z2 H2 σ2 ρ2 fp2 ∧ forL ga fb (ds.drop i) ρ2 = some r ∧ Fr H1 fp Z1 H2 fp2 Z2 ∧ KpB B σ σ2, ⟨_, Z1, ρ, fp, rfl, Nat.zero_le _, S1, e, .refl, .rfl⟩, ?_⟩
  rintro i m σ2 H2 ⟨Z2, ρ2, fp2, rfl, hi, S2, e2, a2, kb⟩
  obtain ⟨go, stop⟩ := it i Z2 H2 (a2.kp S1.own) S2.za
  by_cases hlt : i < ds.length
  · obtain ⟨g1, g2⟩ := go ds[i] (List.getElem?_eq_getElem hlt)
    rw [List.drop_eq_getElem_cons hlt] at e2
    obtain ⟨ρ3, e3, e2⟩ := bind_some (show ((ga ds[i] ρ2).bind fun ρ1 => (fb ρ1).bind fun r => match r with
      | .nx ρ2 => forL ga fb (ds.drop (i + 1)) ρ2
      | .ct ρ2 => forL ga fb (ds.drop (i + 1)) ρ2
      | .bk ρ2 => some (.nx ρ2)
      | .rt o ρ2 => some (.rt o ρ2)) = some r from e2)
    obtain ⟨r', e4, e2⟩ := bind_some e2
    refine .inr ⟨g1, fun σ' H' => ∃ Z2 ρ2 fp2, ds.length - (i + 1) = ds.length - (i + 1) ∧ i + 1 ≤ ds.length ∧ Stt X.K Z2 H' σ' ρ2 fp2 ∧ forL ga fb (ds.drop (i + 1)) ρ2 = some r ∧ Fr H1 fp Z1 H' fp2 Z2 ∧ KpB B σ σ', fun σ' H' q => ⟨_, by omega, q⟩, fun x H3 y => ?_⟩
    obtain ⟨Z3, dx, a3⟩ := g2 x H3 y
    have S3 := S2.still a3
    have a23 : Fr H1 fp Z1 H3 fp2 Z3 := a2.trans (by
      have q := a3.aside (g := fp2)
      rw [List.append_nil] at q
      exact q)
    refine ⟨Z3, ρ2, fp2, ds[i], ρ3, S3, dx, e3, fun σ4 fp4 S4 s4 k4 => ?_⟩
    have a34 : Fr H1 fp Z1 H3 fp4 Z3 := a23.less s4
    have kb4 : KpB B σ σ4 := kb.trans k4
    refine ⟨Z3, ρ3, fp4, r', S4, e4, ?_⟩
    cases r' with
    | nx ρ5 => exact fun Z5 H5 σ5 fp5 S5 a5 k5 => ⟨Z5, ρ5, fp5, rfl, hlt, S5, e2, a34.trans a5, (kb4.trans k5)⟩
    | ct ρ5 => exact fun Z5 H5 σ5 fp5 S5 a5 k5 => ⟨Z5, ρ5, fp5, rfl, hlt, S5, e2, a34.trans a5, (kb4.trans k5)⟩
    | bk ρ5 =>
      cases e2
      exact fun Z5 H5 σ5 fp5 S5 a5 k5 => k1 Z5 H5 σ5 fp5 S5 (a34.trans a5) (kb4.trans k5)
    | rt o ρ5 =>
      cases e2
      exact fun Z5 H5 σ5 fp5 v5 g5 S5 r5 o5 a5 k5 => k1 Z5 H5 σ5 fp5 v5 g5 S5 r5 o5 (a34.trans a5) (kb4.trans k5)
  · have hl : ds.length ≤ i := Nat.le_of_not_lt hlt
    rw [List.drop_eq_nil_of_le hl] at e2
    cases e2
    exact .inl ⟨stop hl, k1 Z2 H2 σ2 fp2 S2 a2 kb⟩
theorem s_for {tg iter : Expr} {body : List Stmt} {fi : FD} {ga : FT} {fb : FS} (hp : PassesOwn (model X.prog X.w) X.A X.env X.xe) (hc : X.calm = true) (hi : DI X tg iter fi) (hg : DG X B tg ga) (hb : DSs X B body fb)
    (hs : ∀ x, foldedSetIterable iter X.env x = pure x := by intro _; rfl) : DS X B (.For tg iter body [] pos) (fFor fi ga fb) := s_forR (R := DpZ X.K) hp hc hi hg hb hs
/-- while -/
theorem s_while {ce : Expr} {body : List Stmt} {fb : FS} (n : Env → Nat) (hp : PassesOwn (model X.prog X.w) X.A X.env X.xe) (hc : TD X ce c) (hb : DSs X B body fb) : DS X B (.While ce body [] pos) (fWh n c fb) := PS.imp (ps_while hp hc hb) fun D σ H h => by
  obtain ⟨Z, ρ, fp, r, S, e, k⟩ := h
  refine ⟨fun m σ2 H2 => ∃ Z2 ρ2 fp2, Stt X.K Z2 H2 σ2 ρ2 fp2 ∧ whL c fb m ρ2 = some r ∧ Fr H fp Z H2 fp2 Z2 ∧ KpB B σ σ2, ⟨n ρ, Z, ρ, fp, S, e, .refl, .rfl⟩, ?_⟩
  rintro m σ2 H2 ⟨Z2, ρ2, fp2, S2, e2, a2, kb⟩
  cases m with
  | zero => cases e2
  | succ m =>
    obtain ⟨b, eb, e2⟩ := bind_some e2
    refine ⟨Z2, ρ2, fp2, b, S2, eb, fun Z3 H3 a3 => ?_⟩
    have S3 := S2.still a3
    have a23 : Fr H fp Z H3 fp2 Z3 := a2.trans (by
      have q := a3.aside (g := fp2)
      rw [List.append_nil] at q
      exact q)
    cases b with
    | false =>
      cases e2
      exact k Z3 H3 σ2 fp2 S3 a23 kb
    | true =>
      obtain ⟨r', e4, e2⟩ := bind_some (show ((fb ρ2).bind fun r => match r with
        | .nx ρ2 => whL c fb m ρ2
        | .ct ρ2 => whL c fb m ρ2
        | .bk ρ2 => some (.nx ρ2)
        | .rt o ρ2 => some (.rt o ρ2)) = some r from e2)
      refine ⟨fun σ' H' => ∃ Z2 ρ2 fp2, Stt X.K Z2 H' σ' ρ2 fp2 ∧ whL c fb m ρ2 = some r ∧ Fr H fp Z H' fp2 Z2 ∧ KpB B σ σ', fun σ' H' q => ⟨m, Nat.lt_succ_self _, q⟩, Z3, ρ2, fp2, r', S3, e4, ?_⟩
      cases r' with
      | nx ρ5 => exact fun Z5 H5 σ5 fp5 S5 a5 k5 => ⟨Z5, ρ5, fp5, S5, e2, a23.trans a5, (kb.trans k5)⟩
      | ct ρ5 => exact fun Z5 H5 σ5 fp5 S5 a5 k5 => ⟨Z5, ρ5, fp5, S5, e2, a23.trans a5, (kb.trans k5)⟩
      | bk ρ5 =>
        cases e2
        exact fun Z5 H5 σ5 fp5 S5 a5 k5 => k Z5 H5 σ5 fp5 S5 (a23.trans a5) (kb.trans k5)
      | rt o ρ5 =>
        cases e2
        exact fun Z5 H5 σ5 fp5 v5 g5 S5 r5 o5 a5 k5 => k Z5 H5 σ5 fp5 v5 g5 S5 r5 o5 (a23.trans a5) (kb.trans k5)
end
end DL

namespace DL
open PySem PySem.Spec PyProof.Rows L2

/-! ## a local's object written in place -/
section
variable {K : PySem.W.Frag} {Z : Zs} {H : Hp}
theorem ER.split {σ : L2.St} {ρ : Env} {fp : List Addr} (h : ER K Z H σ ρ fp) : ∀ {i : Nat} {o : Ob}, ρ[i]? = some (some o) → ∃ (v : V) (g A C : List Addr), fp = A ++ (g ++ C) ∧ σ[i]? = some (some v) ∧ RepO K Z H v o g ∧
    ∀ (Z' : Zs) (H' : Hp) (o' : Ob) (g' : List Addr), (∀ w p q, RepO K Z H w p q → (∀ b ∈ q, b ∈ A ∨ b ∈ C) → RepO K Z' H' w p q) → RepO K Z' H' v o' g' → ER K Z' H' σ (ρ.set i (some o')) (A ++ (g' ++ C)) := by
  induction h with
  | nil => intro i o e; simp at e
  | @no x σ ρ fp h ih =>
    intro i o e
    cases i with
    | zero => simp at e
    | succ i =>
      obtain ⟨v, g, A, C, h1, h2, h3, h4⟩ := ih (i := i) (by simpa using e)
      exact ⟨v, g, A, C, h1, by simpa using h2, h3, fun Z' H' o' g' k r => .no (h4 Z' H' o' g' k r)⟩
  | @one w o' g' σ ρ fp r' h ih =>
    intro i o e
    cases i with
    | zero =>
      simp at e
      subst e
      refine ⟨w, g', [], fp, rfl, rfl, r', fun Z' H' o' g'' k r => ?_⟩
      show ER K Z' H' (some w :: σ) (some o' :: ρ) (g'' ++ fp)
      refine .one r ?_
      have all : ∀ {σ ρ f}, ER K Z H σ ρ f → (∀ b ∈ f, b ∈ fp) → ER K Z' H' σ ρ f := by
        intro σ ρ f h
        induction h with
        | nil => intro _; exact .nil
        | no _ ih => intro m; exact .no (ih m)
        | one r _ ih => intro m; exact .one (k _ _ _ r fun b q => .inr (m b (List.mem_append_left _ q))) (ih fun b q => m b (List.mem_append_right _ q))
      exact all h fun b m => m
    | succ i =>
      obtain ⟨v, g, A, C, h1, h2, h3, h4⟩ := ih (i := i) (by simpa using e)
      refine ⟨v, g, g' ++ A, C, by rw [h1, List.append_assoc], by simpa using h2, h3, fun Z' H' o'' g'' k r => ?_⟩
      rw [List.append_assoc]
      exact .one (k _ _ _ r' fun b q => .inl (List.mem_append_left _ q)) (h4 Z' H' o'' g'' (fun w p q r m => k w p q r fun b q => (m b q).imp (List.mem_append_right _) id) r)
/-- THE RULE for a write into slot i's own object -/
theorem Stt.write {σ : L2.St} {ρ : Env} {fp : List Addr} (S : Stt K Z H σ ρ fp) {i : Nat} {o : Ob} (e : ρ[i]? = some (some o)) : ∃ (v : V) (g : List Addr), σ[i]? = some (some v) ∧ RepO K Z H v o g ∧ Own Z H g ∧
    ∀ (Z' : Zs) (H' : Hp) (o' : Ob) (g' gx : List Addr), Fr H g Z H' (gx ++ g') Z' → RepO K Z' H' v o' g' → Own Z' H' (gx ++ g') → ∃ fp', Stt K Z' H' σ (ρ.set i (some o')) fp' ∧ Own Z' H' (gx ++ fp') ∧ Fr H fp Z H' (gx ++ fp') Z' := by
  obtain ⟨v, g, A, C, rfl, h2, h3, h4⟩ := S.er.split e
  have ndp := List.nodup_append.mp S.own.nd
  have ndg := List.nodup_append.mp ndp.2.1
  have og : Own Z H g := S.own.right.left
  have djA : ∀ b ∈ A, b ∉ g := fun b m m' => ndp.2.2 b m b (List.mem_append_left _ m') rfl
  have djC : ∀ b ∈ C, b ∉ g := fun b m m' => ndg.2.2 b m' b m rfl
  refine ⟨v, g, h2, h3, og, fun Z' H' o' g' gx a r ow => ⟨A ++ (g' ++ C), ?_⟩⟩
  have er := h4 Z' H' o' g' (fun w p q r m => r.keep a og.nt (fun b z => (m b z).elim (djA b) (djC b)) og.nzf) r
  -- all in one
  have oAC : Own Z H ((A ++ C) ++ g) := by
    refine ⟨List.nodup_append.mpr ⟨List.nodup_append.mpr ⟨ndp.1, ndg.2.1, fun x m y n => ndp.2.2 x m y (List.mem_append_right _ n)⟩, ndg.1, fun x m y n q => ?_⟩, fun x m => S.own.nz x ?_, fun x m => S.own.al x ?_⟩
    · subst q
      exact (List.mem_append.mp m).elim (fun m => djA x m n) fun m => djC x m n
    all_goals
      rcases List.mem_append.mp m with m | m
      · rcases List.mem_append.mp m with m | m
        · exact List.mem_append_left _ m
        · exact List.mem_append_right _ (List.mem_append_right _ m)
      · exact List.mem_append_right _ (List.mem_append_left _ m)
  have o2 : Own Z' H' ((A ++ C) ++ (gx ++ g')) := oAC.aside a ow
  have perm : ∀ b, b ∈ gx ++ (A ++ (g' ++ C)) ↔ b ∈ (A ++ C) ++ (gx ++ g') := fun b => by
    simp only [List.mem_append]
    constructor
    · rintro (h | h | h | h)
      · exact .inr (.inl h)
      · exact .inl (.inl h)
      · exact .inr (.inr h)
      · exact .inl (.inr h)
    · rintro ((h | h) | h | h)
      · exact .inr (.inl h)
      · exact .inr (.inr (.inr h))
      · exact .inl h
      · exact .inr (.inr (.inl h))
  have nd2 : (gx ++ (A ++ (g' ++ C))).Nodup := by
    have p : (gx ++ (A ++ (g' ++ C))).Perm ((A ++ C) ++ (gx ++ g')) := by
      have p1 : (g' ++ C).Perm (C ++ g') := List.perm_append_comm
      have p2 : (A ++ (g' ++ C)).Perm (A ++ (C ++ g')) := p1.append_left A
      have p3 : (gx ++ (A ++ (g' ++ C))).Perm (gx ++ (A ++ (C ++ g'))) := p2.append_left gx
      have p4 : (gx ++ (A ++ (C ++ g'))).Perm ((A ++ C) ++ (gx ++ g')) := by
        rw [← List.append_assoc A C g', ← List.append_assoc gx (A ++ C) g', ← List.append_assoc (A ++ C) gx g']
        exact List.perm_append_comm.append_right g'
      exact p3.trans p4
    exact p.nodup_iff.mpr o2.nd
  have o3 : Own Z' H' (gx ++ (A ++ (g' ++ C))) := o2.sub (fun b m => (perm b).mp m) nd2
  refine ⟨⟨er, o3.right, a.zal S.za⟩, o3, ?_⟩
  have f1 : Fr H ((A ++ C) ++ g) Z H' ((A ++ C) ++ (gx ++ g')) Z' := a.aside
  exact (f1.more fun b m => by
    simp only [List.mem_append] at m ⊢
    rcases m with (m | m) | m
    · exact .inl m
    · exact .inr (.inr m)
    · exact .inr (.inl m)).less fun b m => (perm b).mp m
theorem Own.of_al {g : List Addr} {Z' : Zs} {H' : Hp} (nd : g.Nodup) (nz : ∀ a ∈ g, ¬ Z' a) (al : ∀ a ∈ g, ∃ o, H' a = some o ∧ Mt o) : Own Z' H' g := ⟨nd, nz, al⟩
/-- one object is written -/
theorem Fr.upd1 {a : Addr} {o : HO} {g : List Addr} (ha : ∃ o, H a = some o) (hg : a ∈ g) : Fr H g Z (upd H a o) g Z where
  same := fun b u e n => by rw [upd_ne (fun q : b = a => n (by rw [q]; exact hg))]; exact e
  zup := fun _ z => z
  znew := fun _ _ _ z => .inl z
  new := fun _ _ _ m => m
  zal := fun q b z => by
    by_cases e : b = a
    · subst e; exact ⟨_, upd_same⟩
    · rw [upd_ne e]; exact q b z
theorem Own.upd1 {a : Addr} {o : HO} {g : List Addr} (h : Own Z H g) (m : Mt o) : Own Z (upd H a o) g := ⟨h.nd, h.nz, fun b mb => by
  by_cases e : b = a
  · subst e; exact ⟨_, upd_same, m⟩
  · rw [upd_ne e]; exact h.al b mb⟩
theorem DpZ.upd {a : Addr} {o : HO} {v : V} {d : PyData} (h : DpZ K Z H v d) (nz : ¬ Z a) (nt : ∀ xs, H a ≠ some (.tup xs)) : DpZ K Z (upd H a o) v d := h.keep (fun _ z => z) (fun b u z e => by rw [upd_ne (fun q : b = a => nz (by rw [← q]; exact z))]; exact e) fun b xs e => by rw [upd_ne (fun q : b = a => nt xs (by rw [← q]; exact e))]; exact e
theorem DpZs.upd {a : Addr} {o : HO} {v : List V} {d : List PyData} (h : DpZs K Z H v d) (nz : ¬ Z a) (nt : ∀ xs, H a ≠ some (.tup xs)) : DpZs K Z (upd H a o) v d := h.keep (fun _ z => z) (fun b u z e => by rw [upd_ne (fun q : b = a => nz (by rw [← q]; exact z))]; exact e) fun b xs e => by rw [upd_ne (fun q : b = a => nt xs (by rw [← q]; exact e))]; exact e
end
def lt24 (n : Nat) : Bool := Nat.blt n 16777216
theorem lt24_ok {n : Nat} (h : lt24 n = true) : n < sizeLine := by rw [sizeLine_eq]; exact Nat.le_of_ble_eq_true h
def fApp (i : Nat) (f : F1) : FS := fun ρ => (f ρ).bind fun o => (fz o).bind fun d => match ρ[i]? with
  | some (some (.lst l)) => if lt24 l.length then some (.nx (ρ.set i (some (.lst (l ++ [d]))))) else none
  | some (some (.acc n r)) => if lt24 n then some (.nx (ρ.set i (some (.acc (n + 1) (d :: r))))) else none
  | _ => none
def fExt (i : Nat) (f : F1) : FS := fun ρ => (f ρ).bind fun o => (asLst o).bind fun m => match ρ[i]? with
  | some (some (.lst l)) => if short (l ++ m) then some (.nx (ρ.set i (some (.lst (l ++ m))))) else none
  | some (some (.acc n r)) => if lt24 (n + m.length) then some (.nx (ρ.set i (some (.acc (n + m.length) (m.reverse ++ r))))) else none
  | _ => none
def ixN' (n : Nat) (i : Int) : Option Nat := match i with
  | .ofNat k => if Nat.blt k n then some k else none
  | .negSucc k => if Nat.blt k n then some (n - 1 - k) else none
theorem ixN'_eq {n : Nat} {i : Int} {j : Nat} (h : ixN' n i = some j) : ixN n i = some j := by
  cases i with
  | ofNat k =>
    have h : (if Nat.blt k n = true then some k else none) = some j := h
    split at h
    · rename_i c
      have c' : k < n := Nat.le_of_ble_eq_true c
      unfold ixN
      cases h
      rw [if_pos (show (0 : Int) ≤ Int.ofNat j from Int.natCast_nonneg j), if_pos (show Int.ofNat j < (n : Int) from Int.ofNat_lt.mpr c')]
      rfl
    · cases h
  | negSucc k =>
    have h : (if Nat.blt k n = true then some (n - 1 - k) else none) = some j := h
    split at h
    · rename_i c
      have c' : k < n := Nat.le_of_ble_eq_true c
      unfold ixN
      cases h
      rw [if_neg (by omega), if_pos (by omega)]
      congr 1
      omega
    · cases h
/-- x[k] = e, x a list of the local i -/
def fSetIx (i : Nat) (fk f : F1) : FS := fun ρ => (f ρ).bind fun o => (fz o).bind fun d => match ρ[i]? with
  | some (some (.lst l)) => (fk ρ).bind fun y => (asI y).bind fun k => (ixN' l.length k).bind fun j => some (.nx (ρ.set i (some (.lst (l.set j d)))))
  | _ => none
/-- x[k].append(e), x a list of lists of the local i -/
def fApp2 (i : Nat) (fk f : F1) : FS := fun ρ => match ρ[i]? with
  | some (some (.ll L)) => (fk ρ).bind fun y => (asI y).bind fun k => (ixN' L.length k).bind fun j => (L[j]?).bind fun l => (f ρ).bind fun o => (fz o).bind fun d => if lt24 l.length then some (.nx (ρ.set i (some (.ll (L.set j (l ++ [d])))))) else none
  | _ => none
section
variable {X : Cx} {B : List Nat} {pos apos cpos npos : Pos} {e ke : Expr} {f fk : F1} {x : Str}
theorem lst_of {K : PySem.W.Frag} {Z : Zs} {H : Hp} {v : V} {l : List PyData} {g : List Addr} (r : RepO K Z H v (.lst l) g) : ∃ a vs, v = .ref a ∧ g = [a] ∧ H a = some (.lst vs) ∧ DpZs K Z H vs l := by
  cases r with
  | lst h t => exact ⟨_, _, rfl, rfl, h, t⟩
theorem acc_of {K : PySem.W.Frag} {Z : Zs} {H : Hp} {v : V} {n : Nat} {r : List PyData} {g : List Addr} (q : RepO K Z H v (.acc n r) g) : ∃ a vs, v = .ref a ∧ g = [a] ∧ H a = some (.lst vs) ∧ DpZs K Z H vs r.reverse ∧ n = r.length := by
  cases q with
  | acc h t hn => exact ⟨_, _, rfl, rfl, h, t, hn⟩
theorem s_append (i : Nat) (he : DP X e f) (hN : X.N[i]? = some x := by rfl) (hv : Vis X.env.scope x := by first | exact Or.inl rfl | exact Or.inr (Or.inl rfl) | exact Or.inr (Or.inr rfl)) (hd : (x == ("__debug__" : Str)) = false := by decide)
    (hcd : (x == ("__classdict__" : Str)) = false := by decide) (hfew : ((backTo cpos (starEach [e] X.env)).all (fun x => !x.1) && (backToKw cpos (keywordEach [] X.env)).all (fun x => x.1.isSome) && decide (([e] : List Expr).length + ([] : List Keyword).length + (if ([] : List Keyword).isEmpty then 0 else 1) < 30)) = true := by rfl) (hln : (apos.endLine == cpos.line) = true := by rfl) (hs : starEach [e] X.env = (false, eval e X.env) :: starEach [] X.env := by rfl) (hq : swapsWith (.Call (.Attribute (.Name x npos) "append" apos) [e] [] cpos) none pos.line X.env = pure false := by rfl) :
    DS X B (.Expr (.Call (.Attribute (.Name x npos) "append" apos) [e] [] cpos) pos) (fApp i f) := PS.imp (ps_expr (pe_bm PySem.F.plainAttrs_list PySem.F.slot_list_append PySem.F.type_list_append mt_append (pe_var hN hv hd hcd) (pa_cons he pa_nil hs) (hfew := hfew) (hline := hln) (hs := hs)) hq) fun D σ H h => by
  obtain ⟨Z, ρ, fp, r, S, e, k⟩ := h
  obtain ⟨o, eo, e⟩ := bind_some e
  obtain ⟨d, ed, e⟩ := bind_some e
  split at e
  · rename_i l el
    split at e
    · rename_i c
      cases e
      obtain ⟨v, g, h1, h2, _, _⟩ := S.write el
      obtain ⟨a, vs, rfl, rfl, h3, h4⟩ := lst_of h2
      refine ⟨.ref a, h1, .inl ⟨rfl, vs, .of h3⟩, Z, ρ, fp, o, S, eo, fun Z1 H1 v1 g1 r1 o1 a1 => ?_⟩
      have a1' := a1.frz0 o1
      have S1 := S.still a1'
      obtain ⟨v', g', h1', h2', ow, wr⟩ := S1.write el
      rw [h1] at h1'
      cases h1'
      obtain ⟨a', vs', q, rfl, h3', h4'⟩ := lst_of h2'
      cases q
      have d1 := r1.frz ed
      refine ⟨a, vs', v1, rfl, rfl, h3', by rw [h4'.length]; exact lt24_ok c, ?_⟩
      have nz : ¬ (Z1 a ∨ a ∈ g1) := ow.nz a List.mem_cons_self
      have nt : ∀ xs, H1 a ≠ some (.tup xs) := fun xs q => by rw [h3'] at q; cases q
      obtain ⟨fp', S2, _, f2⟩ := wr _ (upd H1 a (.lst (vs' ++ [v1]))) (.lst (l ++ [d])) [a] [] (Fr.upd1 ⟨_, h3'⟩ List.mem_cons_self) (.lst upd_same ((h4'.upd nz nt).append (.cons (d1.upd nz nt) .nil))) (ow.upd1 trivial)
      exact k _ _ σ fp' S2 ((by
        have q := a1'.aside (g := fp)
        rw [List.append_nil] at q
        exact q : Fr H fp Z H1 fp _).trans f2) .rfl
    · cases e
  · rename_i n r el
    split at e
    · rename_i c
      cases e
      obtain ⟨v, g, h1, h2, _, _⟩ := S.write el
      obtain ⟨a, vs, rfl, rfl, h3, _, _⟩ := acc_of h2
      refine ⟨.ref a, h1, .inl ⟨rfl, vs, .of h3⟩, Z, ρ, fp, o, S, eo, fun Z1 H1 v1 g1 r1 o1 a1 => ?_⟩
      have a1' := a1.frz0 o1
      have S1 := S.still a1'
      obtain ⟨v', g', h1', h2', ow, wr⟩ := S1.write el
      rw [h1] at h1'
      cases h1'
      obtain ⟨a', vs', q, rfl, h3', h4', hn⟩ := acc_of h2'
      cases q
      have d1 := r1.frz ed
      have hlen : vs'.length < sizeLine := by
        have q := h4'.length
        rw [List.length_reverse, ← hn] at q
        rw [q]; exact lt24_ok c
      refine ⟨a, vs', v1, rfl, rfl, h3', hlen, ?_⟩
      have nz : ¬ (Z1 a ∨ a ∈ g1) := ow.nz a List.mem_cons_self
      have nt : ∀ xs, H1 a ≠ some (.tup xs) := fun xs q => by rw [h3'] at q; cases q
      have new := (h4'.upd (o := .lst (vs' ++ [v1])) nz nt).append (.cons (d1.upd nz nt) .nil)
      rw [← List.reverse_cons] at new
      obtain ⟨fp', S2, _, f2⟩ := wr _ (upd H1 a (.lst (vs' ++ [v1]))) (.acc (n + 1) (d :: r)) [a] [] (Fr.upd1 ⟨_, h3'⟩ List.mem_cons_self) (.acc upd_same new (by rw [hn]; rfl)) (ow.upd1 trivial)
      exact k _ _ σ fp' S2 ((by
        have q := a1'.aside (g := fp)
        rw [List.append_nil] at q
        exact q : Fr H fp Z H1 fp _).trans f2) .rfl
    · cases e
  · cases e
theorem s_extend (i : Nat) (he : DP X e f) (hN : X.N[i]? = some x := by rfl) (hv : Vis X.env.scope x := by first | exact Or.inl rfl | exact Or.inr (Or.inl rfl) | exact Or.inr (Or.inr rfl)) (hd : (x == ("__debug__" : Str)) = false := by decide)
    (hcd : (x == ("__classdict__" : Str)) = false := by decide) (hfew : ((backTo cpos (starEach [e] X.env)).all (fun x => !x.1) && (backToKw cpos (keywordEach [] X.env)).all (fun x => x.1.isSome) && decide (([e] : List Expr).length + ([] : List Keyword).length + (if ([] : List Keyword).isEmpty then 0 else 1) < 30)) = true := by rfl) (hln : (apos.endLine == cpos.line) = true := by rfl) (hs : starEach [e] X.env = (false, eval e X.env) :: starEach [] X.env := by rfl) (hq : swapsWith (.Call (.Attribute (.Name x npos) "extend" apos) [e] [] cpos) none pos.line X.env = pure false := by rfl) :
    DS X B (.Expr (.Call (.Attribute (.Name x npos) "extend" apos) [e] [] cpos) pos) (fExt i f) := PS.imp (ps_expr (pe_bm PySem.F.plainAttrs_list PySem.F.slot_list_extend PySem.F.type_list_extend mt_extend (pe_var hN hv hd hcd) (pa_cons he pa_nil hs) (hfew := hfew) (hline := hln) (hs := hs)) hq) fun D σ H h => by
  obtain ⟨Z, ρ, fp, r, S, e, k⟩ := h
  obtain ⟨o, eo, e⟩ := bind_some e
  obtain ⟨m, em, e⟩ := bind_some e
  split at e
  · rename_i l el
    split at e
    · rename_i c
      cases e
      obtain ⟨v, g, h1, h2, _, _⟩ := S.write el
      obtain ⟨a, vs, rfl, rfl, h3, h4⟩ := lst_of h2
      refine ⟨.ref a, h1, .inl ⟨rfl, vs, .of h3⟩, Z, ρ, fp, o, S, eo, fun Z1 H1 v1 g1 r1 o1 a1 => ?_⟩
      have a1' : Fr H [] Z H1 [] Z1 := a1.less fun _ m => (nomatch m)
      have S1 := S.still a1'
      obtain ⟨v', g', h1', h2', ow, wr⟩ := S1.write el
      rw [h1] at h1'
      cases h1'
      obtain ⟨a', vs', q, rfl, h3', h4'⟩ := lst_of h2'
      cases q
      obtain ⟨b, ws, rfl, h5, h6⟩ := asLst_rep r1 em
      have hsz := short_ok c
      rw [List.length_append] at hsz
      refine ⟨a, b, vs', ws, rfl, rfl, h3', h5, by rw [h4'.length, h6.length]; exact hsz, ?_⟩
      have nz : ¬ Z1 a := ow.nz a List.mem_cons_self
      have nt : ∀ xs, H1 a ≠ some (.tup xs) := fun xs q => by rw [h3'] at q; cases q
      obtain ⟨fp', S2, _, f2⟩ := wr _ (upd H1 a (.lst (vs' ++ ws))) (.lst (l ++ m)) [a] [] (Fr.upd1 ⟨_, h3'⟩ List.mem_cons_self) (.lst upd_same ((h4'.upd nz nt).append (h6.upd nz nt))) (ow.upd1 trivial)
      exact k _ _ σ fp' S2 ((by
        have q := a1'.aside (g := fp)
        rw [List.append_nil] at q
        exact q : Fr H fp Z H1 fp _).trans f2) .rfl
    · cases e
  · rename_i n r el
    split at e
    · rename_i c
      cases e
      obtain ⟨v, g, h1, h2, _, _⟩ := S.write el
      obtain ⟨a, vs, rfl, rfl, h3, _, _⟩ := acc_of h2
      refine ⟨.ref a, h1, .inl ⟨rfl, vs, .of h3⟩, Z, ρ, fp, o, S, eo, fun Z1 H1 v1 g1 r1 o1 a1 => ?_⟩
      have a1' : Fr H [] Z H1 [] Z1 := a1.less fun _ m => (nomatch m)
      have S1 := S.still a1'
      obtain ⟨v', g', h1', h2', ow, wr⟩ := S1.write el
      rw [h1] at h1'
      cases h1'
      obtain ⟨a', vs', q, rfl, h3', h4', hn⟩ := acc_of h2'
      cases q
      obtain ⟨b, ws, rfl, h5, h6⟩ := asLst_rep r1 em
      have hlen : vs'.length = n := by
        have q := h4'.length
        rw [List.length_reverse, ← hn] at q
        exact q
      have hsz := Nat.le_of_lt (lt24_ok c)
      refine ⟨a, b, vs', ws, rfl, rfl, h3', h5, by rw [hlen, h6.length]; exact hsz, ?_⟩
      have nz : ¬ Z1 a := ow.nz a List.mem_cons_self
      have nt : ∀ xs, H1 a ≠ some (.tup xs) := fun xs q => by rw [h3'] at q; cases q
      have new := (h4'.upd (o := .lst (vs' ++ ws)) nz nt).append (h6.upd nz nt)
      have er : r.reverse ++ m = (m.reverse ++ r).reverse := by rw [List.reverse_append, List.reverse_reverse]
      rw [er] at new
      obtain ⟨fp', S2, _, f2⟩ := wr _ (upd H1 a (.lst (vs' ++ ws))) (.acc (n + m.length) (m.reverse ++ r)) [a] [] (Fr.upd1 ⟨_, h3'⟩ List.mem_cons_self) (.acc upd_same new (by rw [hn, List.length_append, List.length_reverse]; omega)) (ow.upd1 trivial)
      exact k _ _ σ fp' S2 ((by
        have q := a1'.aside (g := fp)
        rw [List.append_nil] at q
        exact q : Fr H fp Z H1 fp _).trans f2) .rfl
    · cases e
  · cases e
theorem tail_fr {H H1 : Hp} {Z Z1 : Zs} {fp : List Addr} (a1 : Fr H [] Z H1 [] Z1) : Fr H fp Z H1 fp Z1 := by
  have q := a1.aside (g := fp)
  rw [List.append_nil] at q
  exact q
theorem s_setix (i : Nat) {ipos : Pos} (he : DP X e f) (hk : PR X ke fk) (hN : X.N[i]? = some x := by rfl) (hv : Vis X.env.scope x := by first | exact Or.inl rfl | exact Or.inr (Or.inl rfl) | exact Or.inr (Or.inr rfl)) (hd : (x == ("__debug__" : Str)) = false := by decide)
    (hcd : (x == ("__classdict__" : Str)) = false := by decide) (ha : ∀ v, assign (.Subscript (.Name x npos) ke ipos) X.env v = (do
      let ov ← holding [v] (eval (.Name x npos) X.env)
      let iv ← holding [v, ov] (eval ke X.env)
      standAt ipos
      holding [v, ov, iv] (setItem ov iv v)
      release [v, ov, iv] []) := by intro _; rfl) (hs : swapsWithSole [.Subscript (.Name x npos) ke ipos] e pos.line X.env = pure false := by rfl) (hw : swappedStores [.Subscript (.Name x npos) ke ipos] e X.env = pure none := by rfl)
    (h1 : (assignEach [.Subscript (.Name x npos) ke ipos] X.env).map (·.2) = [assign (.Subscript (.Name x npos) ke ipos) X.env] := by rfl) :
    DS X B (.Assign [.Subscript (.Name x npos) ke ipos] e pos) (fSetIx i fk f) := PS.imp (ps_asg he (pg_sub (pe_var hN hv hd hcd) hk set_list ha) hs hw h1) fun D σ H h => by
  obtain ⟨Z, ρ, fp, r, S, e, k⟩ := h
  obtain ⟨o, eo, e⟩ := bind_some e
  obtain ⟨d, ed, e⟩ := bind_some e
  split at e
  · rename_i l el
    obtain ⟨y, ey, e⟩ := bind_some e
    obtain ⟨kk, ek, e⟩ := bind_some e
    obtain ⟨j, ej, e⟩ := bind_some e
    cases e
    refine ⟨Z, ρ, fp, o, S, eo, fun Z1 H1 v1 g1 r1 o1 a1 => ?_⟩
    have a1' := a1.frz0 o1
    have S1 := S.still a1'
    have d1 := r1.frz ed
    obtain ⟨v, g, h1, h2, _, _⟩ := S1.write el
    refine ⟨v, h1, _, ρ, fp, y, S1, ey, fun Z2 H2 v2 g2 r2 a2 => ?_⟩
    have S2 := S1.still a2
    obtain ⟨v', g', h1', h2', ow, wr⟩ := S2.write el
    rw [h1] at h1'
    cases h1'
    obtain ⟨a, vs, rfl, rfl, h3, h4⟩ := lst_of h2'
    refine ⟨a, vs, kk, j, rfl, asI_rep r2 ek, h3, by rw [h4.length]; exact ixN'_eq ej, ?_⟩
    have nz : ¬ Z2 a := ow.nz a List.mem_cons_self
    have nt : ∀ xs, H2 a ≠ some (.tup xs) := fun xs q => by rw [h3] at q; cases q
    obtain ⟨fp', S3, _, f3⟩ := wr _ (upd H2 a (.lst (vs.set j v1))) (.lst (l.set j d)) [a] [] (Fr.upd1 ⟨_, h3⟩ List.mem_cons_self) (.lst upd_same ((h4.upd nz nt).set j ((d1.still a2).upd nz nt))) (ow.upd1 trivial)
    exact k _ _ σ fp' S3 ((tail_fr (a1'.trans a2)).trans f3) .rfl
  · cases e
theorem LLs.at {K : PySem.W.Frag} {Z : Zs} {H : Hp} : ∀ {bs : List Addr} {ls : List (List PyData)} {j : Nat} {l : List PyData}, LLs K Z H bs ls → ls[j]? = some l → ∃ b vs, bs[j]? = some b ∧ H b = some (.lst vs) ∧ DpZs K Z H vs l
  | _, _, _, _, .nil, e => by simp at e
  | _, _, 0, _, .cons h t _, e => by simp at e; subst e; exact ⟨_, _, rfl, h, t⟩
  | _, _, j + 1, l, .cons _ _ t, e => by
    obtain ⟨b, vs, h1, h2, h3⟩ := LLs.at (j := j) (l := l) t (by simpa using e)
    exact ⟨b, vs, by simpa using h1, h2, h3⟩
theorem LLs.upd {K : PySem.W.Frag} {Z : Zs} {H : Hp} {b : Addr} {vs : List V} {l : List PyData} (nz : ¬ Z b) (nt : ∀ xs, H b ≠ some (.tup xs)) (d : DpZs K Z (upd H b (.lst vs)) vs l) : ∀ {bs : List Addr} {ls : List (List PyData)} {j : Nat}, LLs K Z H bs ls → bs.Nodup → bs[j]? = some b → LLs K Z (L2.upd H b (.lst vs)) bs (ls.set j l)
  | _, _, _, .nil, _, e => by simp at e
  | b' :: bs, l' :: ls, 0, .cons h t r, nd, e => by
    simp at e
    subst e
    rw [List.nodup_cons] at nd
    refine .cons upd_same d ?_
    have all : ∀ {bs ls}, LLs K Z H bs ls → b' ∉ bs → LLs K Z (L2.upd H b' (.lst vs)) bs ls := by
      intro bs ls h
      induction h with
      | nil => intro _; exact .nil
      | cons h t _ ih =>
        intro n
        rw [List.mem_cons, not_or] at n
        exact .cons (by rw [upd_ne (fun q => n.1 q.symm)]; exact h) (t.upd nz nt) (ih n.2)
    exact all r nd.1
  | b' :: bs, l' :: ls, j + 1, .cons h t r, nd, e => by
    rw [List.nodup_cons] at nd
    have e : bs[j]? = some b := by simpa using e
    have ne : b' ≠ b := fun q => nd.1 (q ▸ List.mem_of_getElem? e)
    exact .cons (by rw [upd_ne ne]; exact h) (t.upd nz nt) (LLs.upd nz nt d r nd.2 e)
theorem ll_of {K : PySem.W.Frag} {Z : Zs} {H : Hp} {v : V} {l : List (List PyData)} {g : List Addr} (r : RepO K Z H v (.ll l) g) : ∃ a bs, v = .ref a ∧ g = a :: bs ∧ H a = some (.lst (bs.map V.ref)) ∧ LLs K Z H bs l := by
  cases r with
  | ll h t => exact ⟨_, _, rfl, rfl, h, t⟩
theorem s_app2 (i : Nat) {ipos : Pos} (hk : PR X ke fk) (he : DP X e f) (hN : X.N[i]? = some x := by rfl) (hv : Vis X.env.scope x := by first | exact Or.inl rfl | exact Or.inr (Or.inl rfl) | exact Or.inr (Or.inr rfl)) (hd : (x == ("__debug__" : Str)) = false := by decide)
    (hcd : (x == ("__classdict__" : Str)) = false := by decide) (hpl : PlainIx ke := by intro _ _; rfl) (hfew : ((backTo cpos (starEach [e] X.env)).all (fun x => !x.1) && (backToKw cpos (keywordEach [] X.env)).all (fun x => x.1.isSome) && decide (([e] : List Expr).length + ([] : List Keyword).length + (if ([] : List Keyword).isEmpty then 0 else 1) < 30)) = true := by rfl) (hln : (apos.endLine == cpos.line) = true := by rfl) (hs : starEach [e] X.env = (false, eval e X.env) :: starEach [] X.env := by rfl) (hq : swapsWith (.Call (.Attribute (.Subscript (.Name x npos) ke ipos) "append" apos) [e] [] cpos) none pos.line X.env = pure false := by rfl) :
    DS X B (.Expr (.Call (.Attribute (.Subscript (.Name x npos) ke ipos) "append" apos) [e] [] cpos) pos) (fApp2 i fk f) := PS.imp (ps_expr (pe_bm PySem.F.plainAttrs_list PySem.F.slot_list_append PySem.F.type_list_append mt_append (pe_ix ix_list (pe_var hN hv hd hcd) hk hpl) (pa_cons he pa_nil hs) (hfew := hfew) (hline := hln) (hs := hs)) hq) fun D σ H h => by
  obtain ⟨Z, ρ, fp, r, S, e, k⟩ := h
  unfold fApp2 at e
  split at e
  · rename_i L el
    obtain ⟨y, ey, e⟩ := bind_some e
    obtain ⟨kk, ek, e⟩ := bind_some e
    obtain ⟨j, ej, e⟩ := bind_some e
    obtain ⟨l, ejl, e⟩ := bind_some e
    obtain ⟨o, eo, e⟩ := bind_some e
    obtain ⟨d, ed, e⟩ := bind_some e
    split at e
    · rename_i c
      cases e
      obtain ⟨v, g, h1, h2, _, _⟩ := S.write el
      refine ⟨v, h1, Z, ρ, fp, y, S, ey, fun Z1 H1 v1 g1 r1 a1 => ?_⟩
      have S1 := S.still a1
      obtain ⟨v', g', h1', h2', ow, wr⟩ := S1.write el
      rw [h1] at h1'
      cases h1'
      obtain ⟨a, bs, rfl, rfl, h3, h4⟩ := ll_of h2'
      obtain ⟨b, vs, hb, hbv, hbd⟩ := h4.at ejl
      have hlen : bs.length = L.length := h4.length
      have hat : atI (bs.map V.ref) kk = some (.ref b) := by
        unfold atI
        rw [List.length_map, hlen, ixN'_eq ej]
        show (bs.map V.ref)[j]? = _
        rw [List.getElem?_map, hb]
        rfl
      refine ⟨a, bs.map V.ref, kk, .ref b, rfl, asI_rep r1 ek, .of h3, hat, .inl ⟨rfl, vs, .of hbv⟩, Z1, ρ, fp, o, S1, eo, fun Z2 H2 v2 g2 r2 o2 a2 => ?_⟩
      have a2' := a2.frz0 o2
      have S2 := S1.still a2'
      have d2 := r2.frz ed
      obtain ⟨v', g', h1'', h2'', ow2, wr2⟩ := S2.write el
      rw [h1] at h1''
      cases h1''
      obtain ⟨a', bs', q, rfl, h5, h6⟩ := ll_of h2''
      cases q
      -- the same inner lists
      have e5 : H2 a = some (.lst (bs.map V.ref)) := a2'.same _ _ h3 (by simp)
      rw [h5] at e5
      have e6 : bs' = bs := by
        have : bs'.map V.ref = bs.map V.ref := by
          have q := Option.some.inj e5
          injection q
        exact (List.map_inj_right fun x y q => by injection q).mp this
      subst e6
      obtain ⟨b2, vs2, hb2, hbv2, hbd2⟩ := h6.at ejl
      rw [hb] at hb2
      cases hb2
      refine ⟨b, vs2, v2, rfl, rfl, hbv2, by rw [hbd2.length]; exact lt24_ok c, ?_⟩
      have mb : b ∈ bs' := List.mem_of_getElem? hb
      have ndb := List.nodup_cons.mp ow2.nd
      have nab : a ≠ b := fun q => ndb.1 (q ▸ mb)
      have nz : ¬ (Z2 b ∨ b ∈ g2) := ow2.nz b (List.mem_cons_of_mem _ mb)
      have nt : ∀ xs, H2 b ≠ some (.tup xs) := fun xs q => by rw [hbv2] at q; cases q
      obtain ⟨fp', S3, _, f3⟩ := wr2 _ (upd H2 b (.lst (vs2 ++ [v2]))) (.ll (L.set j (l ++ [d]))) (a :: bs') [] (Fr.upd1 ⟨_, hbv2⟩ (List.mem_cons_of_mem _ mb))
        (.ll (by rw [upd_ne nab]; exact h5) (h6.upd nz nt ((hbd2.upd nz nt).append (.cons (d2.upd nz nt) .nil)) ndb.2 hb)) (ow2.upd1 trivial)
      exact k _ _ σ fp' S3 ((tail_fr (a1.trans a2')).trans f3) .rfl
    · cases e
  · cases e
end
end DL

namespace DL
open PySem PySem.Spec PyProof.Rows L2

/-! ## list comprehensions, pure -/
def wipeE (ρ : Env) : List Nat → Env
  | [] => ρ
  | v :: vs => (wipeE ρ vs).set v none
def lcL (ga : FT) (tt : FB) (te : F1) : List PyData → Env → Option (List PyData)
  | [], _ => some []
  | d :: ds, ρ => (ga d ρ).bind fun ρ1 => (tt ρ1).bind fun b => if b then (te ρ1).bind fun o => (fz o).bind fun x => (lcL ga tt te ds ρ).bind fun r => some (x :: r) else lcL ga tt te ds ρ
def offs (n : Nat) (vs : List Nat) : List Nat := (List.range n).filter fun i => !vs.contains i
def oLc (n : Nat) (vs : List Nat) (fi : FD) (ga : FT) (tt : FB) (te : F1) : F1 := fun ρ => if Nat.beq ρ.length n then (fi ρ).bind fun ds => if short ds then (lcL ga tt te ds (wipeE ρ vs)).bind fun l => some (.lst l) else none else none
def bYes : FB := fun _ => some true
abbrev TDs (X : Cx) (ifs : List Expr) (f : FB) : Prop := PTs X ifs (tT X.K f)
section
variable {K : PySem.W.Frag} {Z : Zs} {H : Hp}
theorem ER.unset {σ : L2.St} {ρ : Env} {fp : List Addr} (h : ER K Z H σ ρ fp) : ∀ i : Nat, ∃ fp', ER K Z H (σ.set i none) (ρ.set i none) fp' ∧ (∀ b ∈ fp', b ∈ fp) ∧ (fp.Nodup → fp'.Nodup) := by
  induction h with
  | nil => intro i; exact ⟨[], .nil, fun _ m => m, fun h => h⟩
  | @no x σ ρ fp h ih =>
    intro i
    cases i with
    | zero => exact ⟨fp, .no h, fun _ m => m, fun h => h⟩
    | succ i =>
      obtain ⟨fp', h1, h2, h3⟩ := ih i
      exact ⟨fp', .no h1, h2, h3⟩
  | @one v o g σ ρ fp r h ih =>
    intro i
    cases i with
    | zero => exact ⟨fp, .no h, fun _ m => List.mem_append_right _ m, fun h => (List.nodup_append.mp h).2.1⟩
    | succ i =>
      obtain ⟨fp', h1, h2, h3⟩ := ih i
      refine ⟨g ++ fp', .one r h1, fun b m => ?_, fun nd => ?_⟩
      · rcases List.mem_append.mp m with m | m
        · exact List.mem_append_left _ m
        · exact List.mem_append_right _ (h2 b m)
      · obtain ⟨n1, n2, n3⟩ := List.nodup_append.mp nd
        exact List.nodup_append.mpr ⟨n1, h3 n2, fun a m b m' => n3 a m b (h2 b m')⟩
theorem ER.wipe {σ : L2.St} {ρ : Env} {fp : List Addr} (h : ER K Z H σ ρ fp) : ∀ vs : List Nat, ∃ fp', ER K Z H (L2.wipe σ vs) (wipeE ρ vs) fp' ∧ (∀ b ∈ fp', b ∈ fp) ∧ (fp.Nodup → fp'.Nodup)
  | [] => ⟨fp, h, fun _ m => m, fun h => h⟩
  | v :: vs => by
    obtain ⟨fp1, h1, h2, h3⟩ := ER.wipe h vs
    obtain ⟨fp2, h4, h5, h6⟩ := h1.unset v
    exact ⟨fp2, h4, fun b m => h2 b (h5 b m), fun nd => h6 (h3 nd)⟩
theorem Stt.wipe {σ : L2.St} {ρ : Env} {fp : List Addr} (S : Stt K Z H σ ρ fp) (vs : List Nat) : ∃ fp', Stt K Z H (L2.wipe σ vs) (wipeE ρ vs) fp' ∧ ∀ b ∈ fp', b ∈ fp := by
  obtain ⟨fp', h1, h2, h3⟩ := S.er.wipe vs
  exact ⟨fp', ⟨h1, S.own.sub h2 (h3 S.own.nd), S.za⟩, h2⟩
theorem wipe_at (σ : L2.St) (i : Nat) : ∀ vs : List Nat, (i ∈ vs → ∀ x, (L2.wipe σ vs)[i]? = some x → x = none) ∧ (i ∉ vs → (L2.wipe σ vs)[i]? = σ[i]?)
  | [] => ⟨fun m => (nomatch m), fun _ => rfl⟩
  | v :: vs => by
    obtain ⟨h1, h2⟩ := wipe_at σ i vs
    unfold L2.wipe
    by_cases e : v = i
    · subst e
      refine ⟨fun _ x q => ?_, fun n => absurd List.mem_cons_self n⟩
      by_cases hl : v < (L2.wipe σ vs).length
      · rw [List.getElem?_set_self hl] at q
        exact (Option.some.inj q).symm
      · rw [List.getElem?_eq_none (by simpa using hl)] at q; cases q
    · rw [List.getElem?_set_ne e]
      refine ⟨fun m => h1 ?_, fun n => h2 fun m => n (List.mem_cons_of_mem _ m)⟩
      rcases List.mem_cons.mp m with q | m
      · exact absurd q.symm e
      · exact m
theorem wipe_back {σ σ2 : L2.St} {vs : List Nat} {n : Nat} (hn : σ.length = n) (k : KpB (offs n vs) (L2.wipe σ vs) σ2) : L2.wipe σ2 vs = L2.wipe σ vs := by
  have hl : σ2.length = σ.length := k.len.trans (wipe_length σ vs)
  refine List.ext_getElem? fun i => ?_
  by_cases m : i ∈ vs
  · obtain ⟨h1, _⟩ := wipe_at σ i vs
    obtain ⟨h2, _⟩ := wipe_at σ2 i vs
    by_cases hi : i < σ.length
    · have e1 : i < (L2.wipe σ vs).length := by rw [wipe_length]; exact hi
      have e2 : i < (L2.wipe σ2 vs).length := by rw [wipe_length, hl]; exact hi
      rw [List.getElem?_eq_getElem e1, List.getElem?_eq_getElem e2, h1 m _ (List.getElem?_eq_getElem e1), h2 m _ (List.getElem?_eq_getElem e2)]
    · rw [List.getElem?_eq_none (by rw [wipe_length, hl]; omega), List.getElem?_eq_none (by rw [wipe_length]; omega)]
  · rw [(wipe_at σ2 i vs).2 m]
    by_cases hi : i < n
    · exact k.at_ i (List.mem_filter.mpr ⟨List.mem_range.mpr hi, by simpa using m⟩)
    · rw [List.getElem?_eq_none (by omega), List.getElem?_eq_none (by rw [wipe_length]; omega)]
end
section
variable {X : Cx} {K : PySem.W.Frag} {pos : Pos} {fi : FD} {ga : FT} {tt : FB} {te : F1} {n : Nat} {vs : List Nat}
theorem runLc {σ : L2.St} {H : Hp} {Q : VK} (h : tP K (oLc n vs fi ga tt te) σ H Q) : tLc (tI K fi) (tG K (offs n vs) ga) (tT K tt) (tP K te) vs σ H Q := by
  obtain ⟨Z, ρ, fp, o, S, e, k⟩ := h
  have e : (if Nat.beq ρ.length n = true then (fi ρ).bind fun ds => if short ds = true then (lcL ga tt te ds (wipeE ρ vs)).bind fun l => some (.lst l) else none else none) = some o := e
  split at e
  · rename_i hn
    have hn : ρ.length = n := Nat.eq_of_beq_eq_true hn
    obtain ⟨ds, ed, e⟩ := bind_some e
    split at e
    · rename_i hs
      have hs := short_ok hs
      obtain ⟨l, el, e⟩ := bind_some e
      cases e
      refine ⟨Z, ρ, fp, ds, S, ed, fun Z1 H1 J it a1 D nD => ?_⟩
      have S1 := S.still a1
      have za1 := S1.za
      have nzD : ¬ Z1 D := fun z => by
        obtain ⟨o, q⟩ := za1 D z
        rw [nD] at q; cases q
      refine ⟨fun i m H2 => ∃ Z2 av ad rest, m = ds.length - i ∧ i ≤ ds.length ∧ H2 D = some (.lst av) ∧ DpZs K Z2 H2 av ad ∧ ¬ Z2 D ∧ av.length ≤ i ∧ Fr H1 [] Z1 H2 [D] Z2 ∧ lcL ga tt te (ds.drop i) (wipeE ρ vs) = some rest ∧ ad ++ rest = l,
        ⟨_, Z1, [], [], l, rfl, Nat.zero_le _, upd_same, .nil, nzD, Nat.le_refl _, upd_fr nD Z1 (fun _ z => z) (fun _ z => .inl z) (fun b m => by simpa using m), el, rfl⟩, ?_⟩
      rintro i m H2 ⟨Z2, av, ad, rest, rfl, hi, hD, dv, nz2, hlen, a2, e2, el2⟩
      have a2' : Fr H1 [] Z1 H2 [] Z2 := a2.less fun _ m => (nomatch m)
      have S2 := S1.still a2'
      obtain ⟨go, stop⟩ := it i Z2 H2 ⟨a2.zup, fun b u z e => a2.same b u e (by simp), fun b xs e => a2.same b _ e (by simp)⟩ S2.za
      have ownD : ∀ {Z : Zs} {H : Hp} {av : List V}, H D = some (.lst av) → ¬ Z D → Own Z H [D] := fun q z => ⟨by simp, fun a m => by rw [List.mem_singleton.mp m]; exact z, fun a m => by rw [List.mem_singleton.mp m]; exact ⟨_, q, trivial⟩⟩
      by_cases hlt : i < ds.length
      · obtain ⟨g1, g2⟩ := go ds[i] (List.getElem?_eq_getElem hlt)
        rw [List.drop_eq_getElem_cons hlt] at e2
        obtain ⟨ρ3, e3, e2⟩ := bind_some (show ((ga ds[i] (wipeE ρ vs)).bind fun ρ1 => (tt ρ1).bind fun b => if b = true then (te ρ1).bind fun o => (fz o).bind fun x => (lcL ga tt te (ds.drop (i + 1)) (wipeE ρ vs)).bind fun r => some (x :: r) else lcL ga tt te (ds.drop (i + 1)) (wipeE ρ vs)) = some rest from e2)
        obtain ⟨b, eb, e2⟩ := bind_some e2
        refine .inr ⟨g1, fun H' => ∃ Z2 av ad rest, i + 1 ≤ ds.length ∧ H' D = some (.lst av) ∧ DpZs K Z2 H' av ad ∧ ¬ Z2 D ∧ av.length ≤ i + 1 ∧ Fr H1 [] Z1 H' [D] Z2 ∧ lcL ga tt te (ds.drop (i + 1)) (wipeE ρ vs) = some rest ∧ ad ++ rest = l, fun H' ⟨Z2, av, ad, rest, q⟩ => ⟨_, by omega, Z2, av, ad, rest, rfl, q⟩, fun x H3 y => ?_⟩
        obtain ⟨Z3, dx, a3⟩ := g2 x H3 y
        -- the list built so far stands aside
        have step : ∀ {Z4 : Zs} {H4 : Hp}, Fr H2 [] Z2 H4 [] Z4 → H4 D = some (.lst av) ∧ DpZs K Z4 H4 av ad ∧ ¬ Z4 D ∧ Fr H1 [] Z1 H4 [D] Z4 := fun {Z4 H4} a4 => by
          refine ⟨a4.same _ _ hD (by simp), dv.still a4, fun z => ?_, a2.trans (tail_fr a4)⟩
          rcases a4.znew D _ hD z with z | z
          · exact nz2 z
          · cases z
        have S3 := S2.still a3
        obtain ⟨fpw, Sw, _⟩ := S3.wipe vs
        refine ⟨Z3, _, fpw, ds[i], ρ3, Sw, dx, e3, fun σ4 fp4 S4 s4 k4 => ⟨wipe_back (by rw [S.er.len]; exact hn) k4, Z3, ρ3, fp4, b, S4, eb, fun Z5 H5 a5 => ?_⟩⟩
        have a35 := a3.trans a5
        cases b with
        | false =>
          rw [if_neg Bool.false_ne_true] at e2
          refine L2.iteF ?_
          obtain ⟨s1, s2, s3, s4⟩ := step a35
          exact ⟨Z5, av, ad, rest, hlt, s1, s2, s3, by omega, s4, e2, el2⟩
        | true =>
          rw [if_pos rfl] at e2
          refine L2.iteT ?_
          obtain ⟨o6, e6, e2⟩ := bind_some e2
          obtain ⟨x6, ex6, e2⟩ := bind_some e2
          obtain ⟨r6, er6, e2⟩ := bind_some e2
          cases e2
          refine ⟨Z5, ρ3, fp4, o6, S4.still a5, e6, fun Z6 H6 v6 g6 r6' o6' a6 => ?_⟩
          have a6' := a6.frz0 o6'
          obtain ⟨s1, s2, s3, s4⟩ := step (a35.trans a6')
          have dz := r6'.frz ex6
          refine ⟨av, s1, by omega, _, av ++ [v6], ad ++ [x6], r6, hlt, upd_same, (s2.upd s3 fun xs q => by rw [s1] at q; cases q).append (.cons (dz.upd s3 fun xs q => by rw [s1] at q; cases q) .nil), s3, by rw [List.length_append]; simp; omega, s4.trans (Fr.upd1 ⟨_, s1⟩ (by simp)), er6, by rw [← el2]; simp⟩
      · have hl : ds.length ≤ i := Nat.le_of_not_lt hlt
        rw [List.drop_eq_nil_of_le hl] at e2
        cases e2
        rw [List.append_nil] at el2
        subst el2
        exact .inl ⟨stop hl, k Z2 H2 (.ref D) [D] (.lst hD dv) (ownD hD nz2) ((a1.trans a2))⟩
    · cases e
  · cases e
abbrev BlkAll (X : Cx) (scope : Scope) (p : Cx → Prop) : Prop := ∀ (s : Shared) (H : Hp) (C : Addr) (cl : List (Str × Addr)) (fp : List Addr), p (X.blk s H scope (compEnvC scope cl C X.env) fp)
theorem ts_nil : TDs X [] bYes := ⟨fun pins s σ H Q I h => by
  obtain ⟨Z, ρ, fp, b, S, e, k⟩ := h
  cases e
  exact pts_nil.run pins s σ H Q I (k Z H .refl)⟩
theorem ts_one {c : Expr} {f : FB} (h : TD X c f) : TDs X [c] f := pts_one h
theorem d_lc {elt tg iter : Expr} {ifs : List Expr} {scope : Scope} (own : List (Str × Nat)) {n : Nat} (hc : X.calm = true) (hN : X.N.Nodup) (hi : DI X tg iter fi) (ok : BlkOk X.N X.env.scope scope own)
    (hg : BlkAll X scope fun X => DG X (offs n (own.map (·.2))) tg ga) (ht : BlkAll X scope fun X => TDs X ifs tt) (he : BlkAll X scope fun X => DP X elt te) (hs : ∀ x, foldedSetIterable iter X.env x = pure x := by intro _; rfl) :
    DP X (.ListComp elt [⟨tg, iter, ifs, 0⟩] scope pos) (oLc n (own.map (·.2)) fi ga tt te) := PE.imp (pe_lc hc hN hi ok hg ht he hs) fun _ _ _ h => runLc h
theorem runSet {B : List Nat} {i : Nat} {t : TE} {fe : F1} (ht : ∀ σ H Q, tP K fe σ H Q → t σ H Q) (hB : i ∉ B) {D : Ends} {σ : L2.St} {H : Hp} (h : tS K B (fSet i fe) D σ H) : tAsg t (gName i) D σ H := by
  obtain ⟨Z, ρ, fp, r, S, e, k⟩ := h
  obtain ⟨o, eo, e⟩ := bind_some e
  cases e
  refine ht _ _ _ ⟨Z, ρ, fp, o, S, eo, fun Z1 H1 v1 g1 r1 o1 a1 => ?_⟩
  obtain ⟨S1, ow, fr⟩ := beside S o1 a1
  obtain ⟨fp', S2, hs⟩ := S1.set r1 ow i
  exact k Z1 H1 _ fp' S2 (fr.less hs) (kpB_set hB)
/-- y = [.. for ..], y a plain local -/
theorem s_setLc (i : Nat) {B : List Nat} {y : Str} {py spos : Pos} {elt tg iter : Expr} {ifs : List Expr} {scope : Scope} (own : List (Str × Nat)) {n : Nat} (hc : X.calm = true) (hN : X.N.Nodup) (hi : DI X tg iter fi) (ok : BlkOk X.N X.env.scope scope own)
    (hg : BlkAll X scope fun X => DG X (offs n (own.map (·.2))) tg ga) (ht : BlkAll X scope fun X => TDs X ifs tt) (he : BlkAll X scope fun X => DP X elt te) (hsw : swapsWith (.ListComp elt [⟨tg, iter, ifs, 0⟩] scope pos) (some (.Name y py)) spos.line X.env = pure true)
    (hy : X.N[i]? = some y := by rfl) (hyl : X.env.scope.names.lookup y = some .local := by rfl) (hB : i ∉ B := by decide) (hs : ∀ x, foldedSetIterable iter X.env x = pure x := by intro _; rfl) :
    DS X B (.Assign [.Name y py] (.ListComp elt [⟨tg, iter, ifs, 0⟩] scope pos) spos) (fSet i (oLc n (own.map (·.2)) fi ga tt te)) := PS.imp (ps_setLc hc hN hy hyl hsw hi ok hg ht he hs) fun D σ H h => runSet (fun _ _ _ h => runLc h) hB h
end

/-! ## lists of separate values; more than one target -/
inductive ReO (K : PySem.W.Frag) (Z : Zs) (H : Hp) : List V → List Ob → List Addr → Prop
  | nil : ReO K Z H [] [] []
  | cons {v : V} {vs : List V} {o : Ob} {os : List Ob} {g gs : List Addr} : RepO K Z H v o g → ReO K Z H vs os gs → ReO K Z H (v :: vs) (o :: os) (g ++ gs)
def tOA (K : PySem.W.Frag) (f : FL) : TA := fun σ H Q => ∃ Z ρ fp os, Stt K Z H σ ρ fp ∧ f ρ = some os ∧ ∀ Z' H' vs g, ReO K Z' H' vs os g → Own Z' H' g → Fr H [] Z H' g Z' → Q vs H'
abbrev OA (X : Cx) (es : List Expr) (f : FL) : Prop := PA X es (tOA X.K f)
def setAll : List Nat → List Ob → Env → Option Env
  | [], [], ρ => some ρ
  | i :: is, o :: os, ρ => setAll is os (ρ.set i (some o))
  | _, _, _ => none
def fPar (is : List Nat) (fl : FL) : FS := fun ρ => (fl ρ).bind fun os => (setAll is os ρ).bind fun ρ' => some (.nx ρ')
section
variable {X : Cx} {K : PySem.W.Frag} {B : List Nat} {pos : Pos} {e : Expr} {es : List Expr} {f : F1} {fl : FL}
theorem oa_nil : OA X [] lNil := PA.imp pa_nil fun σ H Q h => by
  obtain ⟨Z, ρ, fp, os, S, e, k⟩ := h
  cases e
  exact k Z H [] [] .nil .nil .nil
theorem oa_cons (ha : DP X e f) (hr : OA X es fl) (hs : starEach (e :: es) X.env = (false, eval e X.env) :: starEach es X.env := by rfl) : OA X (e :: es) (lCons f fl) := PA.imp (pa_cons ha hr hs) fun σ H Q h => by
  obtain ⟨Z, ρ, fp, os, S, e, k⟩ := h
  obtain ⟨x, ex, e⟩ := bind_some e
  obtain ⟨ys, ey, e⟩ := bind_some e
  cases e
  refine ⟨Z, ρ, fp, x, S, ex, fun Z1 H1 v1 g1 r1 o1 a1 => ⟨Z1, ρ, fp, ys, S.still (a1.less (fr := []) fun _ m => (nomatch m)), ey, fun Z2 H2 vs g2 r2 o2 a2 => ?_⟩⟩
  have a2' : Fr H1 [] Z1 H2 [] Z2 := a2.less fun _ m => (nomatch m)
  have q := a2.aside (g := g1)
  rw [List.append_nil] at q
  exact k Z2 H2 (v1 :: vs) (g1 ++ g2) (.cons (r1.still a2') r2) (o1.fresh a2 o2) (a1.trans q)
theorem setAll_run {Z : Zs} {H : Hp} : ∀ (is : List Nat) {os : List Ob} {vs : List V} {g : List Addr} {σ : L2.St} {ρ ρ' : Env} {fp : List Addr}, ReO K Z H vs os g → Stt K Z H σ ρ fp → Own Z H (g ++ fp) → setAll is os ρ = some ρ' → (∀ i ∈ is, i ∉ B) →
    ∀ (Q : L2.St → Prop), (∀ σ' fp', Stt K Z H σ' ρ' fp' → (∀ b ∈ fp', b ∈ g ++ fp) → KpB B σ σ' → Q σ') → ∃ f : List (Nat × V), f = is.zip vs ∧ is.length = vs.length ∧ Q (f.foldl (fun σ p => σ.set p.1 (some p.2)) σ)
  | [], os, vs, g, σ, ρ, ρ', fp, r, S, ow, e, hB, Q, k => by
    cases r with
    | nil => cases e; exact ⟨[], rfl, rfl, k σ fp S (fun b m => m) .rfl⟩
    | cons _ _ => cases e
  | i :: is, os, vs, g, σ, ρ, ρ', fp, r, S, ow, e, hB, Q, k => by
    cases r with
    | nil => cases e
    | @cons v vs o os g1 g2 r1 rs =>
      have ow2 : Own Z H (g1 ++ fp) := ow.sub (fun b m => by
        simp only [List.mem_append] at m ⊢
        rcases m with m | m
        · exact .inl (.inl m)
        · exact .inr m) (by
        obtain ⟨n1, n2, n3⟩ := List.nodup_append.mp ow.nd
        obtain ⟨n4, n5, n6⟩ := List.nodup_append.mp n1
        exact List.nodup_append.mpr ⟨n4, n2, fun a m b m' => n3 a (List.mem_append_left _ m) b m'⟩)
      obtain ⟨fp', S', hs⟩ := S.set r1 ow2 i
      have ow3 : Own Z H (g2 ++ fp') := by
        refine ow.sub (fun b m => ?_) ?_
        · simp only [List.mem_append] at m ⊢
          rcases m with m | m
          · exact .inl (.inr m)
          · rcases List.mem_append.mp (hs b m) with m | m
            · exact .inl (.inl m)
            · exact .inr m
        · obtain ⟨n1, n2, n3⟩ := List.nodup_append.mp ow.nd
          obtain ⟨n4, n5, n6⟩ := List.nodup_append.mp n1
          refine List.nodup_append.mpr ⟨n5, S'.own.nd, fun a m b m' q => ?_⟩
          subst q
          rcases List.mem_append.mp (hs a m') with m' | m'
          · exact n6 a m' a m rfl
          · exact n3 a (List.mem_append_right _ m) a m' rfl
      obtain ⟨f, rfl, hl, q⟩ := setAll_run is rs S' ow3 e (fun j m => hB j (List.mem_cons_of_mem _ m)) Q fun σ' fp'' S'' s'' k'' => k σ' fp'' S'' (fun b m => by
        rcases List.mem_append.mp (s'' b m) with m | m
        · exact List.mem_append_left _ (List.mem_append_right _ m)
        · rcases List.mem_append.mp (hs b m) with m | m
          · exact List.mem_append_left _ (List.mem_append_left _ m)
          · exact List.mem_append_right _ m) ((kpB_set (hB i List.mem_cons_self)).trans k'')
      exact ⟨_, rfl, by simp [hl], q⟩
/-- the targets as plain names, from the left -/
def gNames : List Nat → TGs
  | [] => gNil
  | i :: is => gCons (gName i) (gNames is)
theorem gNames_run : ∀ (is : List Nat) {vs : List V} {σ : L2.St} {H : Hp} {Q : L2.St → Hp → Prop}, is.length = vs.length → Q ((is.zip vs).foldl (fun σ p => σ.set p.1 (some p.2)) σ) H → gNames is vs σ H Q
  | [], [], _, _, _, _, q => ⟨rfl, q⟩
  | [], _ :: _, _, _, _, h, _ => by simp at h
  | _ :: _, [], _, _, _, h, _ => by simp at h
  | i :: is, v :: vs, σ, H, Q, h, q => ⟨v, vs, rfl, gNames_run is (by simpa using h) q⟩
theorem runPar {is : List Nat} {σ : L2.St} {H : Hp} {D : Ends} (hB : ∀ i ∈ is, i ∉ B) (h : tS K B (fPar is fl) D σ H) : tOA K fl σ H fun vs H1 => is.length = vs.length ∧ ∀ (H2 : Hp), (∃ p, H1 p = none ∧ H2 = upd H1 p (.tup vs)) ∨ H2 = H1 → D.nx ((is.zip vs).foldl (fun σ p => σ.set p.1 (some p.2)) σ) H2 := by
  obtain ⟨Z, ρ, fp, r, S, e, k⟩ := h
  obtain ⟨os, eo, e⟩ := bind_some e
  obtain ⟨ρ', er, e⟩ := bind_some e
  cases e
  refine ⟨Z, ρ, fp, os, S, eo, fun Z1 H1 vs g r1 o1 a1 => ?_⟩
  obtain ⟨S1, ow, fr⟩ := beside S o1 a1
  obtain ⟨_, rfl, hl, _⟩ := setAll_run (B := B) is r1 S1 ow er hB (fun _ => True) fun _ _ _ _ _ => trivial
  refine ⟨hl, fun H2 hH => ?_⟩
  rcases hH with ⟨p, np, rfl⟩ | rfl
  · have a2 : Fr H1 [] Z1 (upd H1 p (.tup vs)) [] Z1 := upd_fr np Z1 (fun _ z => z) (fun _ z => .inl z) (fun b m => (nomatch m))
    have r2 : ReO K Z1 (upd H1 p (.tup vs)) vs os g := by
      have all : ∀ {vs os g}, ReO K Z1 H1 vs os g → ∀ ws, Fr H1 [] Z1 (upd H1 p (.tup ws)) [] Z1 → ReO K Z1 (upd H1 p (.tup ws)) vs os g := by
        intro vs os g h ws a
        induction h with
        | nil => exact .nil
        | cons r _ ih => exact .cons (r.still a) ih
      exact all r1 vs a2
    obtain ⟨_, rfl, _, q⟩ := setAll_run (B := B) is r2 (S1.still a2) (ow.still a2) er hB (fun σ' => D.nx σ' (upd H1 p (.tup vs))) fun σ' fp' S' s' k' => k _ _ σ' fp' S' ((fr.trans (tail_fr a2)).less s') k'
    exact q
  · obtain ⟨_, rfl, _, q⟩ := setAll_run (B := B) is r1 S1 ow er hB (fun σ' => D.nx σ' H2) fun σ' fp' S' s' k' => k _ _ σ' fp' S' (fr.less s') k'
    exact q
theorem tOA_mono {K : PySem.W.Frag} {fl : FL} {σ : L2.St} {H : Hp} {Q Q' : List V → Hp → Prop} (h : tOA K fl σ H Q) (k : ∀ vs H, Q vs H → Q' vs H) : tOA K fl σ H Q' := by
  obtain ⟨Z, ρ, fp, os, S, e, q⟩ := h
  exact ⟨Z, ρ, fp, os, S, e, fun Z' H' vs g r o a => k _ _ (q Z' H' vs g r o a)⟩
theorem len_le {is : List Nat} {vs : List V} (h : is.length = vs.length) (c : is.length ≤ 1000) : vs.length ≤ sizeLine := by rw [← h]; exact Nat.le_of_lt (small1000 c)
/-- a, b, .. = x, y, .. by a tuple -/
theorem s_parT (is : List Nat) {tgs : List Expr} {k1 k2 : Nat} {p1 p2 : Pos} (hc : X.calm = true) (ha : OA X es fl) (ht : PGs X tgs (gNames is)) (hB : ∀ i ∈ is, i ∉ B := by decide) (hlen : is.length ≤ 1000 := by decide)
    (hn : (assignEach tgs X.env).length = is.length := by rfl) (hst : (assignEach tgs X.env).findIdx? (·.1) = none := by rfl)
    (hs : swapsWithSole [.Tuple tgs k1 p1] (.Tuple es k2 p2) pos.line X.env = pure false := by rfl) (hw : swappedStores [.Tuple tgs k1 p1] (.Tuple es k2 p2) X.env = pure none := by rfl)
    (h1 : (assignEach [.Tuple tgs k1 p1] X.env).map (·.2) = [assign (.Tuple tgs k1 p1) X.env] := by rfl) :
    DS X B (.Assign [.Tuple tgs k1 p1] (.Tuple es k2 p2) pos) (fPar is fl) := PS.imp (ps_asg (pe_tup ha) (pg_tup hc ht hn hst) hs hw h1) fun D σ H h => tOA_mono (runPar hB h) fun vs H1 ⟨hl, q⟩ => by
  refine ⟨len_le hl hlen, fun p np => ⟨p, vs, rfl, .of upd_same, hl.symm, gNames_run is hl (q _ (.inl ⟨p, np, rfl⟩))⟩⟩
/-- a, b = x, y of plain locals -/
theorem s_par2 (i j : Nat) {x y : Str} {a b : Expr} {px py pt pt2 : Pos} {kt k2 : Nat} (hc : X.calm = true) (hN : X.N.Nodup) (ha : OA X [a, b] fl) (hi : X.N[i]? = some x := by rfl) (hj : X.N[j]? = some y := by rfl) (hij : i ≠ j := by decide)
    (hx : X.env.scope.names.lookup x = some .local := by rfl) (hy : X.env.scope.names.lookup y = some .local := by rfl) (hB : ∀ k ∈ [i, j], k ∉ B := by decide)
    (hw : swappedStores [.Tuple [.Name x px, .Name y py] kt pt] (.Tuple [a, b] k2 pt2) X.env = pure (some [x, y]) := by rfl) (hs : swapsWithSole [.Tuple [.Name x px, .Name y py] kt pt] (.Tuple [a, b] k2 pt2) pos.line X.env = pure false := by rfl) :
    DS X B (.Assign [.Tuple [.Name x px, .Name y py] kt pt] (.Tuple [a, b] k2 pt2) pos) (fPar [i, j] fl) := PS.imp (ps_par hc hN hi hj hij hx hy ha hw hs) fun D σ H h => tOA_mono (runPar hB h) fun vs H1 ⟨hl, q⟩ => by
  match vs, hl with
  | [v, w], _ => exact ⟨v, w, rfl, q H1 (.inr rfl)⟩
/-- a, b, c = x, y, z of plain locals: stored from the right -/
theorem ps_par3 {i j m : Nat} {x y z : Str} {a b c : Expr} {ta : TA} {px py pz pt pt2 : Pos} {kt k2 : Nat} (hc : X.calm = true) (hN : X.N.Nodup) (hi : X.N[i]? = some x) (hj : X.N[j]? = some y) (hm : X.N[m]? = some z) (hij : i ≠ j) (him : i ≠ m) (hjm : j ≠ m)
    (hx : X.env.scope.names.lookup x = some .local) (hy : X.env.scope.names.lookup y = some .local) (hz : X.env.scope.names.lookup z = some .local) (ha : PA X [a, b, c] ta)
    (hw : swappedStores [.Tuple [.Name x px, .Name y py, .Name z pz] kt pt] (.Tuple [a, b, c] k2 pt2) X.env = pure (some [x, y, z]))
    (hs : swapsWithSole [.Tuple [.Name x px, .Name y py, .Name z pz] kt pt] (.Tuple [a, b, c] k2 pt2) pos.line X.env = pure false) :
    PS X (.Assign [.Tuple [.Name x px, .Name y py, .Name z pz] kt pt] (.Tuple [a, b, c] k2 pt2) pos) (fun D σ H => ta σ H fun vs H1 => ∃ v w u, vs = [v, w, u] ∧ D.nx (((σ.set i (some v)).set j (some w)).set m (some u)) H1) := by
  constructor
  intro pins s σ H D I h
  rw [exec_Assign_arm]
  refine wpAny_bind (wpAny_standAt ?_)
  rw [hs]
  refine wpAny_bind (wpAny_pure ?_)
  rw [if_neg (by decide)]
  refine wpAny_bind (Tuple_ (thn (ha.run _ pins s σ H _ I h) fun us s1 hus => ?_))
  obtain ⟨vs, H1, I1, r1, v, w, u, e1, q1⟩ := hus
  subst e1
  obtain ⟨u1, u2, u3, rfl, rv, rw', ru⟩ : ∃ u1 u2 u3, us = [u1, u2, u3] ∧ RelV v u1 ∧ RelV w u2 ∧ RelV u u3 := by
    cases r1 with
    | cons p1 t1 => cases t1 with
      | cons p2 t2 => cases t2 with
        | cons p3 t3 => cases t3; exact ⟨_, _, _, rfl, p1, p2, p3⟩
  refine wpAny_newObj_type ?_ (by show 3 ≤ sizeLine; decide)
  have I2 : Inv X pins σ H1 { s1 with heap := s1.heap.push { cls := .type "tuple", data := .seq [u1, u2, u3].toArray } } := I1.kept (t' := s1.toks) fun b o e => Heap.get?_push_of_some _ e
  rw [hw]
  refine wpAny_bind (wpAny_pure ?_)
  show wpAny (model X.prog X.w) X.A (do rule "assign.swapped-stores"; let items ← unpackItems (.ref s1.heap.objs.size) 3 none; assignInOrder [fun v => bindName X.env z v, fun v => bindName X.env y v, fun v => bindName X.env x v] items.reverse; pure Flow.next) _ _ _
  refine wpAny_bind (wpAny_rule (wpAny_bind (unpackItems_tuple (items := #[u1, u2, u3]) (I.ok.hd hc) (IsTup.new s1.heap _) fun h' hx' => ?_)))
  have I3 := I2.kept (h' := h') (t' := s1.toks) fun b o e => hx' b o (Nat.ne_of_lt (Heap.lt_size e)) e
  show wpAny _ _ (assignInOrder [fun v => bindName X.env z v, fun v => bindName X.env y v, fun v => bindName X.env x v] [u3, u2, u1] >>= fun _ => pure Flow.next) _ _ _
  refine wpAny_bind (assignInOrder_cons (wpAny_bindName (store_ok I3 hN hm (.inl hz) ru (fun s2 I4 => ?_) (.inr hz))))
  refine assignInOrder_cons (wpAny_bindName (store_ok I4 hN hj (.inl hy) rw' (fun s3 I5 => ?_) (.inr hy)))
  refine assignInOrder_cons (wpAny_bindName (store_ok I5 hN hi (.inl hx) rv (fun s4 I6 => assignInOrder_nil (wpAny_pure ?_)) (.inr hx)))
  rw [List.set_comm _ _ (Ne.symm hij), List.set_comm _ _ (Ne.symm him), List.set_comm _ _ (Ne.symm hjm)] at I6
  exact ⟨_, H1, I6, q1⟩
theorem s_par3 (i j m : Nat) {x y z : Str} {a b c : Expr} {px py pz pt pt2 : Pos} {kt k2 : Nat} (hc : X.calm = true) (hN : X.N.Nodup) (ha : OA X [a, b, c] fl) (hi : X.N[i]? = some x := by rfl) (hj : X.N[j]? = some y := by rfl) (hm : X.N[m]? = some z := by rfl) (hij : i ≠ j := by decide) (him : i ≠ m := by decide) (hjm : j ≠ m := by decide)
    (hx : X.env.scope.names.lookup x = some .local := by rfl) (hy : X.env.scope.names.lookup y = some .local := by rfl) (hz : X.env.scope.names.lookup z = some .local := by rfl) (hB : ∀ k ∈ [i, j, m], k ∉ B := by decide)
    (hw : swappedStores [.Tuple [.Name x px, .Name y py, .Name z pz] kt pt] (.Tuple [a, b, c] k2 pt2) X.env = pure (some [x, y, z]) := by rfl) (hs : swapsWithSole [.Tuple [.Name x px, .Name y py, .Name z pz] kt pt] (.Tuple [a, b, c] k2 pt2) pos.line X.env = pure false := by rfl) :
    DS X B (.Assign [.Tuple [.Name x px, .Name y py, .Name z pz] kt pt] (.Tuple [a, b, c] k2 pt2) pos) (fPar [i, j, m] fl) := PS.imp (ps_par3 hc hN hi hj hm hij him hjm hx hy hz ha hw hs) fun D σ H h => tOA_mono (runPar hB h) fun vs H1 ⟨hl, q⟩ => by
  match vs, hl with
  | [v, w, u], _ => exact ⟨v, w, u, rfl, q H1 (.inr rfl)⟩
end

/-! ## defs -/
abbrev Fn := List PyData → Option Ob
/-- a def's promise: data in, an object out -/
def spP (K : PySem.W.Frag) (n : Nat) (F : Fn) : Sp := fun vs H Q _ => ∃ Z ds o, Za Z H ∧ DpZs K Z H vs ds ∧ ds.length = n ∧ F ds = some o ∧ Rst K Z H o Q
def dCall (n : Nat) (F : Fn) (fd : FD) : F1 := fun ρ => (fd ρ).bind fun ds => if Nat.beq ds.length n then F ds else none
def startE (n : Nat) (ds : List PyData) : Env := ds.map (fun d => some (.fr d)) ++ List.replicate (n - ds.length) none
/-- what a def with this body gives -/
def fnOf (n : Nat) (f : FS) : Fn := fun ds => (f (startE n ds)).bind fun r => match r with
  | .rt o _ => some o
  | .nx _ => some (.fr .none)
  | _ => none
section
variable {X : Cx} {CX : CXT} {k : Nat} {f : Addr} {fd : FuncData} {ps : List Str} {E : XK} {x : Str} {p pos : Pos} {e : Expr} {es : List Expr} {fl : FD} {n : Nat} {F : Fn}
theorem d_call (F' : FnOk X.prog X.w X.K X.mg X.base CX0 k f fd ps (spP X.K n F)) (hr : Room k X.A) (hg : Gl X x) (hm : X.mg x = some (.ref f)) (hk : PySem.W.keepIn X.K (.ref f) = true) (hb : Binds X.K fd ps [])
    (ha : DA X (e :: es) fl) (hdb : (x == ("__debug__" : Str)) = false := by decide) (he : starEach (e :: es) X.env = (false, eval e X.env) :: starEach es X.env := by rfl) (hpl : (backTo pos (starEach es X.env)).any (·.1) = false := by rfl) :
    DP X (.Call (.Name x p) (e :: es) [] pos) (dCall n F fl) := PE.imp (pe_call F' hr hg hm hk hb .nil pass0 ha hdb he hpl) fun σ H Q h => by
  obtain ⟨Z, ρ, fp, o, S, e, kk⟩ := h
  obtain ⟨ds, ed, e⟩ := bind_some e
  split at e
  · rename_i hn
    refine ⟨Z, ρ, fp, ds, S, ed, fun Z1 H1 vs r1 a1 => ?_⟩
    show spP X.K n F (vs ++ []) H1 Q E0
    rw [List.append_nil]
    exact ⟨Z1, ds, o, a1.zal S.za, r1, Nat.eq_of_beq_eq_true hn, e, fun Z2 H2 v2 g2 r2 o2 a2 => kk Z2 H2 v2 g2 r2 o2 (a1.trans a2)⟩
  · cases e
theorem start_er {K : PySem.W.Frag} {Z : Zs} {H : Hp} {N : List Str} : ∀ {vs : List V} {ds : List PyData}, DpZs K Z H vs ds → ∀ m : Nat, ER K Z H (vs.map some ++ List.replicate m none) (ds.map (fun d => some (.fr d)) ++ List.replicate m none) []
  | _, _, .nil, m => by
    simp only [List.map_nil, List.nil_append]
    induction m with
    | zero => exact .nil
    | succ m ih => rw [List.replicate_succ, List.replicate_succ]; exact .no ih
  | _, _, .cons h t, m => .one (g := []) (.fr h) (start_er (N := N) t m)
/-- THE RULE for a def -/
theorem fn_ok {P : Program} {w : World} {K : PySem.W.Frag} {mg : Str → Option Value} {base : Heap} {qx qual : Str} {params : Arguments} {body : List Stmt} {scope : Scope} {N : List Str} {k m : Nat} {fs : FS} (Fd : FunD K qx qual params body scope [] [] f fd) (S : FnScope N ps scope) (hps : ps.length = n) (hN : N.length = m)
    (h : ∀ (cdv : Value) (A : Around) (outer : List PySem.Env) (s : Shared) (H : Hp) (E : XK), Room k (A.deeper (envOfC qual scope s.heap.objs.size f cdv)) → DSs (cxOf CX0 P w K mg base N qual scope f cdv A outer s H E).nox [] body fs) :
    FnOk P w K mg base CX0 (k + 1) f fd ps (spP K n (fnOf m fs)) := by
  refine Fd.ok S (fun vs H Q E h => ?_) fun cdv A outer s H vs Q E hr hq => ⟨_, (h cdv A outer s H E hr).nox, ?_⟩
  · obtain ⟨Z, ds, o, _, h1, h2, _⟩ := h
    rw [h1.length, h2, hps]
  · obtain ⟨Z, ds, o, za, h1, h2, h3, q⟩ := hq
    obtain ⟨r, er, e⟩ := bind_some h3
    have er0 : ER K Z H (start N vs) (startE m ds) [] := by
      unfold L2.start startE
      rw [hN, h1.length]
      exact start_er (N := N) h1 _
    refine ⟨Z, startE m ds, [], r, ⟨er0, .nil, za⟩, er, ?_⟩
    cases r with
    | rt o' ρ' =>
      cases e
      exact fun Z' H' σ' fp' v g S' r' ow a _ => q Z' H' v g r' ow.left (a.less fun b m => List.mem_append_left _ m)
    | nx ρ' =>
      cases e
      exact fun Z' H' σ' fp' S' a _ => q Z' H' .non [] (.fr .non) .nil (a.less fun b m => (nomatch m))
    | bk _ => cases e
    | ct _ => cases e
end
end DL

namespace DL
open PySem PySem.Spec PyProof.Rows L2

/-! ## keys and tables -/
def dkey : PyData → Option Key
  | .int i => some (.inl i)
  | .str x => some (.inr x)
  | _ => none
def dkeys : List PyData → Option (List Key)
  | [] => some []
  | d :: ds => (dkey d).bind fun k => (dkeys ds).bind fun ks => some (k :: ks)
def dkeyT : PyData → Option (List Key)
  | .tuple l => dkeys l
  | _ => none
def kD : Key → PyData
  | .inl i => .int i
  | .inr x => .str x
def kTD (k : List Key) : PyData := .tuple (k.map kD)
section
variable {κ : Type} [DecidableEq κ]
def valD : List (κ × PyData) → κ → Option PyData
  | [], _ => none
  | p :: r, k => if decide (p.1 = k) then some p.2 else valD r k
def hasD (kds : List (κ × PyData)) (k : κ) : Bool := kds.any fun kv => decide (kv.1 = k)
def putD (kds : List (κ × PyData)) (k : κ) (d : PyData) : List (κ × PyData) :=
  if hasD kds k then kds.map (fun kv => if decide (kv.1 = k) then (kv.1, d) else kv) else kds ++ [(k, d)]
def putsD (kds : List (κ × PyData)) : List (κ × PyData) → List (κ × PyData)
  | [] => kds
  | p :: r => putsD (putD kds p.1 p.2) r
variable {K : PySem.W.Frag} {Z : Zs} {H : Hp} {kvs : List (κ × V)} {kds : List (κ × PyData)}
theorem DKv.length (h : DKv K Z H kvs kds) : kvs.length = kds.length := by
  induction h with
  | nil => rfl
  | cons _ _ ih => simp [ih]
theorem DKv.val (h : DKv K Z H kvs kds) (k : κ) : (valD kds k = none ∧ valV kvs k = none) ∨ ∃ d v, valD kds k = some d ∧ valV kvs k = some v ∧ DpZ K Z H v d := by
  induction h with
  | nil => exact .inl ⟨rfl, rfl⟩
  | @cons k' v d kvs kds r _ ih =>
    by_cases e : k' = k
    · exact .inr ⟨d, v, by unfold valD; rw [decide_eq_true e]; rfl, valV_pos (p := (k', v)) e, r⟩
    · have e1 : valD ((k', d) :: kds) k = valD kds k := by
        show (if decide (k' = k) = true then some d else valD kds k) = _
        rw [decide_eq_false e]; rfl
      have e2 : valV ((k', v) :: kvs) k = valV kvs k := valV_neg (p := (k', v)) e
      rw [e1, e2]
      exact ih
theorem DKv.has (h : DKv K Z H kvs kds) (k : κ) : (kvs.any fun kv => decide (kv.1 = k)) = hasD kds k := by
  unfold hasD
  induction h with
  | nil => rfl
  | cons _ _ ih => rw [List.any_cons, List.any_cons, ih]
theorem DKv.app {kvs' : List (κ × V)} {kds' : List (κ × PyData)} (h : DKv K Z H kvs kds) (h' : DKv K Z H kvs' kds') : DKv K Z H (kvs ++ kvs') (kds ++ kds') := by
  induction h with
  | nil => exact h'
  | cons r _ ih => exact .cons r ih
theorem DKv.put (h : DKv K Z H kvs kds) (k : κ) {v : V} {d : PyData} (r : DpZ K Z H v d) : DKv K Z H (putK kvs k v) (putD kds k d) := by
  unfold putK putD
  rw [h.has k]
  by_cases c : hasD kds k = true
  · rw [if_pos c, if_pos c]
    clear c
    induction h with
    | nil => exact .nil
    | @cons k' v' d' kvs kds r' _ ih =>
      rw [List.map_cons, List.map_cons]
      by_cases e : k' = k
      · show DKv K Z H ((if k' = k then (k', v) else (k', v')) :: _) ((if decide (k' = k) = true then (k', d) else (k', d')) :: _)
        rw [if_pos e, decide_eq_true e, if_pos rfl]
        exact .cons r ih
      · show DKv K Z H ((if k' = k then (k', v) else (k', v')) :: _) ((if decide (k' = k) = true then (k', d) else (k', d')) :: _)
        rw [if_neg e, decide_eq_false e, if_neg Bool.false_ne_true]
        exact .cons r' ih
  · rw [if_neg c, if_neg c]
    exact h.app (.cons r .nil)
theorem putD_length (kds : List (κ × PyData)) (k : κ) (d : PyData) : (putD kds k d).length ≤ kds.length + 1 := by
  unfold putD
  split
  · rw [List.length_map]; omega
  · rw [List.length_append]; simp
theorem DKv.keys (h : DKv K Z H kvs kds) : kvs.map (·.1) = kds.map (·.1) := by
  induction h with
  | nil => rfl
  | cons _ _ ih => simp [ih]
end
section
variable {K : PySem.W.Frag} {Z : Zs} {H : Hp}
theorem kD_rep (Z : Zs) (H : Hp) (k : Key) : DpZ K Z H (kV k) (kD k) := by
  cases k with
  | inl i => exact .int i
  | inr x => exact .str x
theorem dkey_rep {v : V} {d : PyData} {k : Key} (h : DpZ K Z H v d) (e : dkey d = some k) : v = kV k := by
  cases d <;> first | (cases e; done) | skip
  · cases e; cases h; rfl
  · cases e; cases h; rfl
theorem dkeys_rep : ∀ {ds : List PyData} {vs : List V} {ks : List Key}, DpZs K Z H vs ds → dkeys ds = some ks → vs = ks.map kV
  | [], _, _, h, e => by cases e; cases h; rfl
  | d :: ds, _, ks, h, e => by
    obtain ⟨k, ek, e⟩ := bind_some (show ((dkey d).bind fun k => (dkeys ds).bind fun ks => some (k :: ks)) = some ks from e)
    obtain ⟨l, el, e⟩ := bind_some e
    cases e
    cases h with
    | cons h t => rw [dkey_rep h ek, dkeys_rep t el]; rfl
theorem dkeyT_rep {v : V} {d : PyData} {ks : List Key} (h : DpZ K Z H v d) (e : dkeyT d = some ks) : ∃ b, v = .ref b ∧ H b = some (.tup (ks.map kV)) := by
  cases d <;> first | (cases e; done) | skip
  obtain ⟨a, xs, rfl, s, t⟩ := h.tupAt
  rw [dkeys_rep t e] at s
  exact ⟨a, rfl, s⟩
theorem dkey_kD : ∀ {d : PyData} {k : Key}, dkey d = some k → kD k = d
  | .int _, _, e => by cases e; rfl
  | .str _, _, e => by cases e; rfl
  | .none, _, e => by cases e
  | .bool _, _, e => by cases e
  | .list _, _, e => by cases e
  | .tuple _, _, e => by cases e
  | .dict _, _, e => by cases e
end

/-! ## {}, len, in, [] -/
section
variable {X : Cx} {K : PySem.W.Frag} {Z : Zs} {H : Hp} {pos : Pos}
/-- a new thing of one object -/
theorem Rst.new1 {Q : VK} {o : Ob} {u : HO} (k : Rst K Z H o Q) (za : Za Z H) (mu : Mt u) (r : ∀ p H', H' p = some u → Fr H [] Z H' [p] Z → RepO K Z H' (.ref p) o [p]) : ∀ p, H p = none → Q (.ref p) (upd H p u) := fun p np => by
  have a : Fr H [] Z (upd H p u) [p] Z := upd_fr np Z (fun _ z => z) (fun _ z => .inl z) (fun b m => by simpa using m)
  refine k Z (upd H p u) (.ref p) [p] (r p _ upd_same a) ⟨by simp, fun b m z => ?_, fun b m => ?_⟩ a
  · obtain rfl : b = p := by simpa using m
    obtain ⟨o, q⟩ := za b z
    rw [np] at q; cases q
  · obtain rfl : b = p := by simpa using m
    exact ⟨_, upd_same, mu⟩
theorem d_newK : DP X (.Dict [] [] pos) (fun _ => some (.dk [])) := PE.imp pe_dnewK fun σ H Q h => by
  obtain ⟨Z, ρ, fp, o, S, e, k⟩ := h
  cases e
  exact Rst.new1 (K := X.K) k S.za trivial fun p H' q a => .dk q .nil
theorem d_newT : DP X (.Dict [] [] pos) (fun _ => some (.dt [])) := PE.imp pe_dnewT fun σ H Q h => by
  obtain ⟨Z, ρ, fp, o, S, e, k⟩ := h
  cases e
  exact Rst.new1 (K := X.K) k S.za trivial fun p H' q a => .dt q .nil
def lenA (x : Ob) : Option Ob := match x with
  | .dk l => some (.fr (.int l.length))
  | .dt l => some (.fr (.int l.length))
  | x => lenO x
abbrev rLenA (K : PySem.W.Frag) : List V → Hp → VK → Prop := fun xs H Q => (∃ a kvs, xs = [V.ref a] ∧ H a = some (.dK kvs) ∧ Q (.int kvs.length) H) ∨ (rLenT xs H Q ∨ (∃ p ys, xs = [.ref p] ∧ (SqL K H p ys ∨ SqT K H p ys) ∧ Q (.int ys.length) H))
theorem op_lenA : CallR X (.builtin "len") (rLenA X.K) := call_lenD.or (call_len_dT.or call_len_seq)
theorem rd_lenA : RdL K (rLenA K) (g1 lenA) := fun Z H vs os o' Q za rs e k => by
  obtain ⟨x, rfl, e2⟩ := g1_some e
  clear e
  have e := e2
  clear e2
  unfold lenA at e
  split at e
  · rename_i l
    cases e
    cases rs with
    | cons r t =>
      cases t
      cases r with
      | dk h d => exact .inl ⟨_, _, rfl, h, by rw [d.length]; exact k.flat (.int _)⟩
  · rename_i l
    cases e
    cases rs with
    | cons r t =>
      cases t
      cases r with
      | dt h d => exact .inr (.inl ⟨_, _, rfl, h, by rw [d.length]; exact k.flat (.int _)⟩)
  · exact .inr (.inr (rd_len Z H vs _ o' Q za rs (show g1 lenO [_] = some o' from e) k))

def dinO (x y : Ob) : Option Ob := match y with
  | .dk l => (asD x).bind fun d => (dkey d).bind fun k => some (fB (hasD l k))
  | .dt l => (asD x).bind fun d => (dkeyT d).bind fun k => some (fB (hasD l k))
  | _ => none
def dniO (x y : Ob) : Option Ob := match y with
  | .dk l => (asD x).bind fun d => (dkey d).bind fun k => some (fB (!hasD l k))
  | .dt l => (asD x).bind fun d => (dkeyT d).bind fun k => some (fB (!hasD l k))
  | _ => none
def inA (x y : Ob) : Option Ob := match y with
  | .dk l => (asD x).bind fun d => (dkey d).bind fun k => some (fB (hasD l k))
  | .dt l => (asD x).bind fun d => (dkeyT d).bind fun k => some (fB (hasD l k))
  | y => inO x y
def niA (x y : Ob) : Option Ob := match y with
  | .dk l => (asD x).bind fun d => (dkey d).bind fun k => some (fB (!hasD l k))
  | .dt l => (asD x).bind fun d => (dkeyT d).bind fun k => some (fB (!hasD l k))
  | y => niO x y
abbrev rDIn (n : Bool) : R2 := fun x y H Q => ∃ a o, y = .ref a ∧ DGet H a x o ∧ Q (.bl (if n then !o.isSome else o.isSome)) H
theorem op_din (hu : X.A.units + 64 < cLine) : OpR X (compareOp .In) (rDIn false) := by
  intro pins s σ H x y v u Q I rx ry h
  obtain ⟨a, o, rfl, g, q⟩ := h
  obtain rfl : u = Value.ref a := ry
  exact d_in (by omega) I g rx fun s' I' => ⟨.bl o.isSome, H, I', rfl, q⟩
theorem op_dni (hu : X.A.units + 64 < cLine) : OpR X (compareOp .NotIn) (rDIn true) := by
  intro pins s σ H x y v u Q I rx ry h
  obtain ⟨a, o, rfl, g, q⟩ := h
  obtain rfl : u = Value.ref a := ry
  exact d_notIn (by omega) I g rx fun s' I' => ⟨.bl (!o.isSome), H, I', rfl, q⟩
theorem hasD_val {κ : Type} [DecidableEq κ] {kvs : List (κ × V)} {kds : List (κ × PyData)} (h : DKv K Z H kvs kds) (k : κ) : (valV kvs k).isSome = hasD kds k := by
  rw [← valV_any, h.has]
theorem rd_din : Rd2 K (fun x y H Q => rDIn false x y H Q ∨ rInA X false x y H Q) dinO := fun Z H v u o p h h' o' Q za r1 r2 e k => by
  unfold dinO at e
  split at e
  · rename_i l
    obtain ⟨d, ed, e⟩ := bind_some e
    obtain ⟨kk, ek, e⟩ := bind_some e
    cases e
    obtain ⟨d1, _⟩ := asD_rep r1 ed
    cases r2 with
    | @dk _ kvs _ hh dd =>
      refine .inl ⟨_, valV kvs kk, rfl, ?_, ?_⟩
      · rw [dkey_rep d1 ek]; exact .k hh
      · rw [hasD_val dd]; exact k.flat (.bl _)
  · rename_i l
    obtain ⟨d, ed, e⟩ := bind_some e
    obtain ⟨kk, ek, e⟩ := bind_some e
    cases e
    obtain ⟨d1, _⟩ := asD_rep r1 ed
    obtain ⟨b, rfl, hb⟩ := dkeyT_rep d1 ek
    cases r2 with
    | @dt _ kvs _ hh dd =>
      refine .inl ⟨_, valV kvs kk, rfl, .t hh hb, ?_⟩
      rw [hasD_val dd]; exact k.flat (.bl _)
  · cases e
theorem rd_dni : Rd2 K (fun x y H Q => rDIn true x y H Q ∨ rInA X true x y H Q) dniO := fun Z H v u o p h h' o' Q za r1 r2 e k => by
  unfold dniO at e
  split at e
  · rename_i l
    obtain ⟨d, ed, e⟩ := bind_some e
    obtain ⟨kk, ek, e⟩ := bind_some e
    cases e
    obtain ⟨d1, _⟩ := asD_rep r1 ed
    cases r2 with
    | @dk _ kvs _ hh dd =>
      refine .inl ⟨_, valV kvs kk, rfl, ?_, ?_⟩
      · rw [dkey_rep d1 ek]; exact .k hh
      · rw [hasD_val dd]; exact k.flat (.bl _)
  · rename_i l
    obtain ⟨d, ed, e⟩ := bind_some e
    obtain ⟨kk, ek, e⟩ := bind_some e
    cases e
    obtain ⟨d1, _⟩ := asD_rep r1 ed
    obtain ⟨b, rfl, hb⟩ := dkeyT_rep d1 ek
    cases r2 with
    | @dt _ kvs _ hh dd =>
      refine .inl ⟨_, valV kvs kk, rfl, .t hh hb, ?_⟩
      rw [hasD_val dd]; exact k.flat (.bl _)
  · cases e
theorem op_inB (hu : X.A.units + 64 < cLine) : OpR X (compareOp .In) (fun x y H Q => rDIn false x y H Q ∨ rInA X false x y H Q) := (op_din hu).or (op_inA hu)
theorem op_niB (hu : X.A.units + 64 < cLine) : OpR X (compareOp .NotIn) (fun x y H Q => rDIn true x y H Q ∨ rInA X true x y H Q) := (op_dni hu).or (op_niA hu)
theorem rd_inB : Rd2 X.K (fun x y H Q => rDIn false x y H Q ∨ rInA X false x y H Q) inA := fun Z H v u o p h h' o' Q za r1 r2 e k => by
  by_cases c : ∃ l, p = .dk l
  · obtain ⟨l, rfl⟩ := c
    exact rd_din (X := X) (K := X.K) Z H v u o _ h h' o' Q za r1 r2 e k
  · by_cases c' : ∃ l, p = .dt l
    · obtain ⟨l, rfl⟩ := c'
      exact rd_din (X := X) (K := X.K) Z H v u o _ h h' o' Q za r1 r2 e k
    · refine .inr (rd_in Z H v u o p h h' o' Q za r1 r2 ?_ k)
      cases p <;> first | exact e | exact absurd ⟨_, rfl⟩ c | exact absurd ⟨_, rfl⟩ c'
theorem rd_niB : Rd2 X.K (fun x y H Q => rDIn true x y H Q ∨ rInA X true x y H Q) niA := fun Z H v u o p h h' o' Q za r1 r2 e k => by
  by_cases c : ∃ l, p = .dk l
  · obtain ⟨l, rfl⟩ := c
    exact rd_dni (X := X) (K := X.K) Z H v u o _ h h' o' Q za r1 r2 e k
  · by_cases c' : ∃ l, p = .dt l
    · obtain ⟨l, rfl⟩ := c'
      exact rd_dni (X := X) (K := X.K) Z H v u o _ h h' o' Q za r1 r2 e k
    · refine .inr (rd_ni Z H v u o p h h' o' Q za r1 r2 ?_ k)
      cases p <;> first | exact e | exact absurd ⟨_, rfl⟩ c | exact absurd ⟨_, rfl⟩ c'
/-! ### x[k] of anything -/
def ixA (x y : Ob) : Option Ob := match x with
  | .dk l => (asD y).bind fun d => (dkey d).bind fun k => (valD l k).bind fun z => some (.fr z)
  | .dt l => (asD y).bind fun d => (dkeyT d).bind fun k => (valD l k).bind fun z => some (.fr z)
  | .ll l => (asI y).bind fun i => (ixN' l.length i).bind fun j => (l[j]?).bind fun z => some (.lst z)
  | x => ixO x y
theorem PE.or {X : Cx} {e : Expr} {t t' : TE} (h : PE X e t) (h' : PE X e t') : PE X e (fun σ H Q => t σ H Q ∨ t' σ H Q) := ⟨fun pins s σ H Q I q => q.elim (h.run pins s σ H Q I) (h'.run pins s σ H Q I)⟩
/-- reading, maybe only borrowed -/
theorem d_ixR {a b : Expr} {fa fb : F1} (hu : X.A.units + 64 < cLine) (ha : PR X a fa) (hb : PR X b fb) (hs : PlainIx b := by intro _ _; rfl) : PR X (.Subscript a b pos) (o2 ixA fa fb) := PE.imp (PE.or (pe_ix ix_seq ha hb hs) (pe_dget (by omega) ha hb hs)) fun σ H Q h => by
  obtain ⟨Z, ρ, fp, o, S, e, k⟩ := h
  obtain ⟨x, ex, e⟩ := bind_some e
  obtain ⟨y, ey, e⟩ := bind_some e
  have two : ∀ {P : VK}, (∀ Z2 H2 v1 g1 v2 g2, RepO X.K Z2 H2 v1 x g1 → RepO X.K Z2 H2 v2 y g2 → Fr H [] Z H2 [] Z2 → True) → True := fun _ => trivial
  by_cases c : ∃ l, x = .dk l
  · obtain ⟨l, rfl⟩ := c
    obtain ⟨d, ed, e⟩ := bind_some e
    obtain ⟨kk, ek, e⟩ := bind_some e
    obtain ⟨z, ez, e⟩ := bind_some e
    cases e
    refine .inr ⟨Z, ρ, fp, _, S, ex, fun Z1 H1 v1 g1 r1 a1 => ⟨Z1, ρ, fp, y, S.still a1, ey, fun Z2 H2 v2 g2 r2 a2 => ?_⟩⟩
    obtain ⟨d1, _⟩ := asD_rep r2 ed
    cases r1.still a2 with
    | dk hh dd =>
      rcases dd.val kk with ⟨n1, _⟩ | ⟨d3, v3, n1, n2, n3⟩
      · rw [n1] at ez; cases ez
      · rw [n1] at ez; cases ez
        refine ⟨_, v3, rfl, ?_, k Z2 H2 v3 [] (.fr n3) (a1.trans a2)⟩
        rw [dkey_rep d1 ek, ← n2]; exact .k hh
  · by_cases c2 : ∃ l, x = .dt l
    · obtain ⟨l, rfl⟩ := c2
      obtain ⟨d, ed, e⟩ := bind_some e
      obtain ⟨kk, ek, e⟩ := bind_some e
      obtain ⟨z, ez, e⟩ := bind_some e
      cases e
      refine .inr ⟨Z, ρ, fp, _, S, ex, fun Z1 H1 v1 g1 r1 a1 => ⟨Z1, ρ, fp, y, S.still a1, ey, fun Z2 H2 v2 g2 r2 a2 => ?_⟩⟩
      obtain ⟨d1, _⟩ := asD_rep r2 ed
      obtain ⟨b, rfl, hb⟩ := dkeyT_rep d1 ek
      cases r1.still a2 with
      | dt hh dd =>
        rcases dd.val kk with ⟨n1, _⟩ | ⟨d3, v3, n1, n2, n3⟩
        · rw [n1] at ez; cases ez
        · rw [n1] at ez; cases ez
          refine ⟨_, v3, rfl, ?_, k Z2 H2 v3 [] (.fr n3) (a1.trans a2)⟩
          rw [← n2]; exact .t hh hb
    · by_cases c3 : ∃ l, x = .ll l
      · obtain ⟨l, rfl⟩ := c3
        obtain ⟨i, ei, e⟩ := bind_some e
        obtain ⟨j, ej, e⟩ := bind_some e
        obtain ⟨z, ez, e⟩ := bind_some e
        cases e
        refine .inl ⟨Z, ρ, fp, _, S, ex, fun Z1 H1 v1 g1 r1 a1 => ⟨Z1, ρ, fp, y, S.still a1, ey, fun Z2 H2 v2 g2 r2 a2 => ?_⟩⟩
        obtain ⟨a, bs, rfl, rfl, h3, h4⟩ := ll_of (r1.still a2)
        obtain ⟨b, vs, hb, hbv, hbd⟩ := h4.at ez
        refine .inl ⟨a, bs.map V.ref, i, .ref b, rfl, asI_rep r2 ei, .of h3, ?_, k Z2 H2 _ [b] (.lst hbv hbd) (a1.trans a2)⟩
        unfold atI
        rw [List.length_map, h4.length, ixN'_eq ej]
        show (bs.map V.ref)[j]? = _
        rw [List.getElem?_map, hb]
        rfl
      · have e : ixO x y = some o := by cases x <;> first | exact e | exact absurd ⟨_, rfl⟩ c | exact absurd ⟨_, rfl⟩ c2 | exact absurd ⟨_, rfl⟩ c3
        exact .inl (run2 (fa := fa) (fb := fb) rd_ix ⟨Z, ρ, fp, o, S, by unfold o2; rw [ex, Option.bind_some, ey, Option.bind_some]; exact e, fun Z' H' v g r _ a => k Z' H' v g r (a.less fun _ m => (nomatch m))⟩)
def ixS (x y : Ob) : Option Ob := match x with
  | .ll _ => none
  | x => ixA x y
theorem ixS_fr {x y o : Ob} (h : ixS x y = some o) : ixA x y = some o ∧ ∃ d, o = .fr d := by
  unfold ixS at h
  split at h
  · cases h
  · refine ⟨h, ?_⟩
    unfold ixA at h
    split at h
    · obtain ⟨d, ed, h⟩ := bind_some h
      obtain ⟨kk, ek, h⟩ := bind_some h
      obtain ⟨z, ez, h⟩ := bind_some h
      cases h; exact ⟨_, rfl⟩
    · obtain ⟨d, ed, h⟩ := bind_some h
      obtain ⟨kk, ek, h⟩ := bind_some h
      obtain ⟨z, ez, h⟩ := bind_some h
      cases h; exact ⟨_, rfl⟩
    · rename_i hn; exact absurd rfl (hn _)
    · obtain ⟨d, ed, h⟩ := bind_some h
      obtain ⟨kk, ek, h⟩ := bind_some h
      obtain ⟨z, ez, h⟩ := bind_some h
      cases h; exact ⟨_, rfl⟩
/-- x[k], frozen -/
theorem d_ixA {a b : Expr} {fa fb : F1} (hu : X.A.units + 64 < cLine) (ha : PR X a fa) (hb : PR X b fb) (hs : PlainIx b := by intro _ _; rfl) : DP X (.Subscript a b pos) (o2 ixS fa fb) := PE.imp (d_ixR hu ha hb hs) fun σ H Q h => by
  obtain ⟨Z, ρ, fp, o, S, e, k⟩ := h
  obtain ⟨x, ex, e⟩ := bind_some e
  obtain ⟨y, ey, e⟩ := bind_some e
  obtain ⟨e, d, rfl⟩ := ixS_fr e
  refine ⟨Z, ρ, fp, _, S, by unfold o2; rw [ex, Option.bind_some, ey, Option.bind_some]; exact e, fun Z' H' v g r a => ?_⟩
  obtain ⟨d1, rfl⟩ := asD_rep r rfl
  exact k Z' H' v [] (.fr d1) .nil a
end

/-! ## x[k] = e of anything -/
theorem PS.or {X : Cx} {e : Stmt} {t t' : TS} (h : PS X e t) (h' : PS X e t') : PS X e (fun D σ H => t D σ H ∨ t' D σ H) := ⟨fun pins s σ H Q I q => q.elim (h.run pins s σ H Q I) (h'.run pins s σ H Q I)⟩
def fPutA (i : Nat) (fk f : F1) : FS := fun ρ => match ρ[i]? with
  | some (some (.dk l)) => (f ρ).bind fun o => (fz o).bind fun d => (fk ρ).bind fun y => (asD y).bind fun z => (dkey z).bind fun k => if lt24 l.length then some (.nx (ρ.set i (some (.dk (putD l k d))))) else none
  | some (some (.dt l)) => (f ρ).bind fun o => (fz o).bind fun d => (fk ρ).bind fun y => (asD y).bind fun z => (dkeyT z).bind fun k => if lt24 l.length then some (.nx (ρ.set i (some (.dt (putD l k d))))) else none
  | _ => fSetIx i fk f ρ
section
variable {X : Cx} {B : List Nat} {pos npos ipos : Pos} {e ke : Expr} {f fk : F1} {x : Str}
theorem DKv.upd {κ : Type} {K : PySem.W.Frag} {Z : Zs} {H : Hp} {a : Addr} {o : HO} {kvs : List (κ × V)} {kds : List (κ × PyData)} (h : DKv K Z H kvs kds) (nz : ¬ Z a) (nt : ∀ xs, H a ≠ some (.tup xs)) : DKv K Z (L2.upd H a o) kvs kds := h.keep (fun _ z => z) (fun b u z e => by rw [upd_ne (fun q : b = a => nz (by rw [← q]; exact z))]; exact e) fun b xs e => by rw [upd_ne (fun q : b = a => nt xs (by rw [← q]; exact e))]; exact e
theorem s_put (i : Nat) (hu : X.A.units + 64 < cLine) (he : DP X e f) (hk : PR X ke fk) (hN : X.N[i]? = some x := by rfl) (hv : Vis X.env.scope x := by first | exact Or.inl rfl | exact Or.inr (Or.inl rfl) | exact Or.inr (Or.inr rfl)) (hd : (x == ("__debug__" : Str)) = false := by decide)
    (hcd : (x == ("__classdict__" : Str)) = false := by decide) (ha : ∀ v, assign (.Subscript (.Name x npos) ke ipos) X.env v = (do
      let ov ← holding [v] (eval (.Name x npos) X.env)
      let iv ← holding [v, ov] (eval ke X.env)
      standAt ipos
      holding [v, ov, iv] (setItem ov iv v)
      release [v, ov, iv] []) := by intro _; rfl) (hs : swapsWithSole [.Subscript (.Name x npos) ke ipos] e pos.line X.env = pure false := by rfl) (hw : swappedStores [.Subscript (.Name x npos) ke ipos] e X.env = pure none := by rfl)
    (h1 : (assignEach [.Subscript (.Name x npos) ke ipos] X.env).map (·.2) = [assign (.Subscript (.Name x npos) ke ipos) X.env] := by rfl) (hsw : swapsWith e (some (.Subscript (.Name x npos) ke ipos)) pos.line X.env = pure false := by rfl) :
    DS X B (.Assign [.Subscript (.Name x npos) ke ipos] e pos) (fPutA i fk f) := PS.imp (PS.or (s_setix (B := B) i he hk hN hv hd hcd ha hs hw h1) (ps_dput (by omega) (pe_var hN hv hd hcd) hk he hsw)) fun D σ H h => by
  obtain ⟨Z, ρ, fp, r, S, e, k⟩ := h
  unfold fPutA at e
  split at e
  · rename_i l el
    obtain ⟨o, eo, e⟩ := bind_some e
    obtain ⟨d, ed, e⟩ := bind_some e
    obtain ⟨y, ey, e⟩ := bind_some e
    obtain ⟨z, ez, e⟩ := bind_some e
    obtain ⟨kk, ek, e⟩ := bind_some e
    split at e
    · rename_i c
      cases e
      refine .inr ⟨Z, ρ, fp, o, S, eo, fun Z1 H1 v1 g1 r1 o1 a1 => ?_⟩
      have a1' := a1.frz0 o1
      have S1 := S.still a1'
      have d1 := r1.frz ed
      obtain ⟨v, g, h1, h2, _, _⟩ := S1.write el
      refine ⟨v, h1, _, ρ, fp, y, S1, ey, fun Z2 H2 v2 g2 r2 a2 => ?_⟩
      have S2 := S1.still a2
      obtain ⟨v', g', h1', h2', ow, wr⟩ := S2.write el
      rw [h1] at h1'
      cases h1'
      obtain ⟨dk2, _⟩ := asD_rep r2 ez
      cases h2' with
      | @dk a kvs _ hh dd =>
        have hl : kvs.length < sizeLine := by rw [dd.length]; exact lt24_ok c
        rw [dkey_rep dk2 ek]
        refine ⟨a, _, rfl, .k hh hl, ?_⟩
        have nz := ow.nz a List.mem_cons_self
        have nt : ∀ xs, H2 a ≠ some (.tup xs) := fun xs q => by rw [hh] at q; cases q
        obtain ⟨fp', S3, _, f3⟩ := wr _ (upd H2 a (.dK (putK kvs kk v1))) (.dk (putD l kk d)) [a] [] (Fr.upd1 ⟨_, hh⟩ List.mem_cons_self) (.dk upd_same ((dd.upd nz nt).put kk ((d1.still a2).upd nz nt))) (ow.upd1 trivial)
        exact k _ _ σ fp' S3 ((tail_fr (a1'.trans a2)).trans f3) .rfl
    · cases e
  · rename_i l el
    obtain ⟨o, eo, e⟩ := bind_some e
    obtain ⟨d, ed, e⟩ := bind_some e
    obtain ⟨y, ey, e⟩ := bind_some e
    obtain ⟨z, ez, e⟩ := bind_some e
    obtain ⟨kk, ek, e⟩ := bind_some e
    split at e
    · rename_i c
      cases e
      refine .inr ⟨Z, ρ, fp, o, S, eo, fun Z1 H1 v1 g1 r1 o1 a1 => ?_⟩
      have a1' := a1.frz0 o1
      have S1 := S.still a1'
      have d1 := r1.frz ed
      obtain ⟨v, g, h1, h2, _, _⟩ := S1.write el
      refine ⟨v, h1, _, ρ, fp, y, S1, ey, fun Z2 H2 v2 g2 r2 a2 => ?_⟩
      have S2 := S1.still a2
      obtain ⟨v', g', h1', h2', ow, wr⟩ := S2.write el
      rw [h1] at h1'
      cases h1'
      obtain ⟨dk2, _⟩ := asD_rep r2 ez
      obtain ⟨b, rfl, hb⟩ := dkeyT_rep dk2 ek
      cases h2' with
      | @dt a kvs _ hh dd =>
        have hl : kvs.length < sizeLine := by rw [dd.length]; exact lt24_ok c
        refine ⟨a, _, rfl, .t hh hb hl, ?_⟩
        have nz := ow.nz a List.mem_cons_self
        have nt : ∀ xs, H2 a ≠ some (.tup xs) := fun xs q => by rw [hh] at q; cases q
        obtain ⟨fp', S3, _, f3⟩ := wr _ (upd H2 a (.dT (putK kvs kk v1))) (.dt (putD l kk d)) [a] [] (Fr.upd1 ⟨_, hh⟩ List.mem_cons_self) (.dt upd_same ((dd.upd nz nt).put kk ((d1.still a2).upd nz nt))) (ow.upd1 trivial)
        exact k _ _ σ fp' S3 ((tail_fr (a1'.trans a2)).trans f3) .rfl
    · cases e
  · exact .inl ⟨Z, ρ, fp, r, S, e, k⟩
end
end DL

namespace DL
open PySem PySem.Spec PyProof.Rows L2

/-! ## sorted, list of a table -/
section
variable {X : Cx} {pins : List (Addr × Obj)} {σ : L2.St} {H : Hp} {s : Shared}
mutual
theorem reads_there {h : Heap} : ∀ {v : Value} {d : PyData} {as : List Addr}, Reads h v d as → ∀ a ∈ as, ∃ o, h.get? a = some o
  | _, _, _, .none, _, m => (nomatch m)
  | _, _, _, .bool _, _, m => (nomatch m)
  | _, _, _, .int _ _, _, m => (nomatch m)
  | _, _, _, .str _ _, _, m => (nomatch m)
  | _, _, _, .list e _ _ r, x, m => by
    rcases List.mem_cons.mp m with rfl | m
    · exact ⟨_, e⟩
    · exact readsAll_there r x m
  | _, _, _, .tuple _ _ _ r, x, m => readsAll_there r x m
  | _, _, _, .dict e _ _ r r2, x, m => by
    rcases List.mem_append.mp m with m | m
    · rcases List.mem_cons.mp m with rfl | m
      · exact ⟨_, e⟩
      · exact readsAll_there r x m
    · exact readsAll_there r2 x m
theorem readsAll_there {h : Heap} : ∀ {v : List Value} {d : List PyData} {as : List Addr}, ReadsAll h v d as → ∀ a ∈ as, ∃ o, h.get? a = some o
  | _, _, _, .nil, _, m => (nomatch m)
  | _, _, _, .cons r r2, x, m => by
    rcases List.mem_append.mp m with m | m
    · exact reads_there r x m
    · exact readsAll_there r2 x m
end
/-- the items that a thing gives, as a list -/
abbrev Gives (X : Cx) (s : Shared) (r : Addr) (zs : List (PyData × V)) : Prop := ∀ (R : List Value → Shared → Prop) (E : Value → Shared → Prop),
  (∀ (h' : Heap) (tk : Nat) (acc : List Value), (∀ b o, s.heap.get? b = some o → h'.get? b = some o) → PySem.W.EachIs (fun u z => RelV z.2 u ∧ ∃ as, Reads s.heap u z.1 as) acc zs → R acc { s with heap := h', toks := tk }) → wpAny (model X.prog X.w) X.A.in1 (collect (.ref r)) R E s
theorem sort_src {r : Addr} {Q : VK} (hu : X.A.units + 64 < cLine) (I : Inv X pins σ H s) (zs : List (PyData × V)) (gv : Gives X s r zs) (hn : zs.length ≤ sizeLine) (ok : SortOk (zs.map (·.1)))
    (q : ∀ (os : List (PyData × V)) (p : Addr), os.Perm zs → os.map (·.1) = isort (zs.map (·.1)) → H p = none → Q (.ref p) (upd H p (.lst (os.map (·.2))))) :
    wpAny (model X.prog X.w) X.A (call (.builtin "sorted") [.ref r]) (EP X pins σ Q) X.xe s := by
  refine Calls.call_function_entry PyProof.Rows.kind_sorted PyProof.Rows.plain_sorted PyProof.Rows.entry_sorted (PyProof.Rows.args_sorted1 _) ?_
  unfold Builtin.«sorted»
  refine wpAny_bind (m := checkCount "sorted" 1 1 _) (wpAny_pure ?_)
  refine wpAny_bind (gv _ _ fun h' tk acc hk e0 => ?_)
  have hal : acc.length = zs.length := e0.length
  have I1 : Inv X pins σ H { s with heap := h', toks := tk } := I.kept hk
  refine wpAny_bind (wpAny_newList ?_ (by rw [hal]; exact hn))
  have hoL : (h'.push (seqObj "list" acc.toArray 0)).get? h'.objs.size = some (seqObj "list" acc.toArray 0) := Heap.get?_push_size _ rfl
  have er : PySem.W.EachIs (fun u (z : PyData × V) => ∃ as, Reads (h'.push (seqObj "list" acc.toArray 0)) u z.1 as ∧ h'.objs.size ∉ as) acc zs := e0.mono fun u z ⟨_, as, r⟩ => by
    refine ⟨as, PyProof.Rows.Reads.keeps (fun b o e => Heap.get?_push_of_some _ (hk b o e)) r, fun m => ?_⟩
    obtain ⟨o, e⟩ := reads_there r _ m
    exact absurd (Heap.lt_size (hk _ _ e)) (Nat.lt_irrefl _)
  have eR : PySem.W.EachIs (fun u (z : PyData × V) => RelV z.2 u) acc zs := e0.mono fun u z h => h.1
  have alk : PySem.W.AllAlike (zs.map fun z => z.1) := fun d m d' m' => ok.al d m d' m'
  show wpAny _ _ _ _ _ { s with heap := h'.push (seqObj "list" acc.toArray 0), toks := tk }
  refine wpAny_bind (wpAny_holding (PySem.W.list_sort_data (s := { s with heap := h'.push (seqObj "list" acc.toArray 0), toks := tk }) hoL eR er alk ok.so hn (fun z m => ?_) fun out ho eo => ?_))
  · have := ok.dp z.1 (List.mem_map.mpr ⟨z, m, rfl⟩)
    show X.A.units + 1 + 1 + z.1.depth < cLine
    omega
  · obtain ⟨e', he'⟩ := PyProof.Rows.sortedHeap_at (vs := acc) (out := List.toArray out) hoL
    have perm := List.mergeSort_perm zs (PySem.W.dataLe false fun z : PyData × V => z.1)
    have hv : Vals ((zs.mergeSort (PySem.W.dataLe false fun z : PyData × V => z.1)).map (·.2)) out := each_of eo fun _ _ h => h
    have hlen : ((zs.mergeSort (PySem.W.dataLe false fun z : PyData × V => z.1)).map (·.2)).length ≤ sizeLine := by
      rw [List.length_map, perm.length_eq]; exact hn
    have e1 := List.map_mergeSort (r := PySem.W.dataLe false fun z : PyData × V => z.1) (s := PySem.W.dataLe false fun d : PyData => d) (f := (·.1)) (l := zs) fun a _ b _ => rfl
    refine wpAny_pure ⟨_, rfl, .ref h'.objs.size, _, I1.laid (t' := tk) (a := h'.objs.size) (o := .lst ((zs.mergeSort (PySem.W.dataLe false fun z : PyData × V => z.1)).map (·.2))) (fun b u e => ?_) (Nat.le_refl _) ⟨hlen, out, e', hv, he'⟩, rfl,
      q _ _ perm (by rw [e1]; exact sort_eq ok) (I1.hok.fresh (Nat.le_refl _))⟩
    have hb : b < h'.objs.size := Heap.lt_size e
    rw [PyProof.Rows.sortedHeap_old (Nat.ne_of_lt hb) (by rw [size_push']; exact Nat.lt_succ_of_lt hb)]
    exact Heap.get?_push_of_some _ e
theorem gives_kdl {T : String} {r d : Addr} {n : Nat} {P : Nat → Value → Prop} {OK : Heap → Prop} {zs : List (PyData × V)} (Kd : PySem.W.KdlSrc X.prog X.w T r d n P OK) (hc : X.calm = true) (I : Inv X pins σ H s) (hok : OK s.heap) (hn : n ≤ sizeLine)
    (he : ∀ acc : Array Value, ItemsOf P acc n → PySem.W.EachIs (fun u z => RelV z.2 u ∧ ∃ as, Reads s.heap u z.1 as) acc.toList zs) : Gives X s r zs := fun R E h =>
  PySem.W.kdu_collect (A := X.A.in1) Kd (I.ok.hd hc) hok hn fun h' tk acc hk hacc => h h' tk acc.toList hk (he acc hacc)
/-- a tuple gives its items -/
theorem gives_tup {r : Addr} {its : List Value} {zs : List (PyData × V)} (ht : IsTup s.heap r its.toArray) (hn : its.length ≤ sizeLine) (he : PySem.W.EachIs (fun u z => RelV z.2 u ∧ ∃ as, Reads s.heap u z.1 as) its zs) : Gives X s r zs := fun R E h => by
  obtain ⟨o, ho, hc, n, hd⟩ := id ht
  generalize hH : (s.heap.push (seqObj "list" #[] 0)) = H1
  have new : H1.get? s.heap.objs.size = some (seqObj "list" #[] 0) := by rw [← hH]; exact Heap.get?_push_size _ rfl
  have old : ∀ b u, s.heap.get? b = some u → H1.get? b = some u := fun b u e => by rw [← hH]; exact Heap.get?_push_of_some _ e
  unfold collect
  refine wpAny_bind (wpAny_runValue (codeAny_builtin entry_proto_collect' ?_))
  show wpAny _ _ (do again (.builtin "list.__iadd__" ⟨[← newList [], .ref r], []⟩)) _ _ s
  refine wpAny_bind (wpAny_newList (wpAny_pure ⟨Code.quiet_builtin _ (by decide +kernel), codeAny_builtin entry_list_iadd' ?_⟩))
  show wpAny _ _ (Builtin.List.listExtendWith (.ref s.heap.objs.size) (.ref r) (.ref s.heap.objs.size)) _ _ { s with heap := s.heap.push (seqObj "list" #[] 0) }
  rw [hH]
  unfold Builtin.List.listExtendWith
  refine wpAny_bind (wpAny_typeOf (T := "tuple") ⟨o, old _ _ ho, hc⟩ ?_)
  rw [if_pos (by rw [show (Value.type "tuple" == Value.type "tuple") = true by rfl]; simp)]
  refine wpAny_bind (listItems_at (old _ _ ho) hd (wpAny_bind (listItems_at new rfl ?_)))
  rw [if_neg (by simp)]
  refine wpAny_bind (listUpdate_at new rfl (wpAny_pure ?_) (Nat.zero_le _) (by simp only [Array.size_append, List.size_toArray, List.length_nil]; omega))
  show wpAny (model X.prog X.w) X.A.in1 (do
    match (← load s.heap.objs.size).data with
    | .seq xs _ => pure xs.toList
    | _ => unsupported "internal:collect") R E { s with heap := H1.update s.heap.objs.size (Obj.mapSeq (· ++ its.toArray)) }
  refine wpAny_bind (wpAny_load (get?_update_seq new _) ?_)
  show wpAny _ _ (pure ((#[] : Array Value) ++ its.toArray).toList) R E _
  rw [show ((#[] : Array Value) ++ its.toArray).toList = its by simp]
  refine wpAny_pure (h _ s.toks its (fun b u e => ?_) he)
  rw [Heap.get?_update_ne _ _ _ _ (Nat.ne_of_lt (Heap.lt_size e))]
  exact old b u e
theorem key_reads {h : Heap} {k : Key} {u : Value} (r : RelV (kV k) u) : Reads h u (kD k) [] := by
  cases k with
  | inl i => obtain ⟨t, rfl⟩ := (show ∃ t, u = Value.int i t from r); exact .int i t
  | inr x => obtain ⟨t, rfl⟩ := (show ∃ t, u = Value.str x t from r); exact .str x t
theorem keys_reads {h : Heap} : ∀ {ks : List Key} {us : List Value}, Vals (ks.map kV) us → ReadsAll h us (ks.map kD) []
  | [], _, r => by cases r; exact .nil
  | k :: ks, _, r => by
    cases r with
    | cons r t => exact ReadsAll.cons (as := []) (bs := []) (key_reads r) (keys_reads t)
theorem keyT_reads (I : Inv X pins σ H s) {b : Addr} {ks : List Key} (hb : H b = some (.tup (ks.map kV))) : Reads s.heap (.ref b) (kTD ks) [] := by
  obtain ⟨_, its, r, o, h1, h2, n, h3⟩ := (show ObjOk X.prog X.w H s.heap b (.tup (ks.map kV)) from I.hok b _ hb)
  exact .tuple h1 h2 h3 (keys_reads (by simpa using r))
end
section
variable {X : Cx} {K : PySem.W.Frag}
abbrev rSortK : List V → Hp → VK → Prop := fun vs H Q => ∃ (a : Addr) (kvs : List (Key × V)), vs = [.ref a] ∧ Rd H a (.dK kvs) ∧ SortOk ((kvs.map fun p => (kD p.1, kV p.1)).map (·.1)) ∧
  ∀ (os : List (PyData × V)) (p : Addr), os.Perm (kvs.map fun p => (kD p.1, kV p.1)) → os.map (·.1) = isort ((kvs.map fun p => (kD p.1, kV p.1)).map (·.1)) → H p = none → Q (.ref p) (upd H p (.lst (os.map (·.2))))
theorem each_keys {h : Heap} : ∀ {vs : List (Key × Value)} {us : List Value}, Vals (vs.map fun p => kV p.1) us → PySem.W.EachIs (fun u (z : PyData × V) => RelV z.2 u ∧ ∃ as, Reads h u z.1 as) us (vs.map fun p => (kD p.1, kV p.1))
  | [], _, r => by cases r; exact .nil
  | p :: vs, _, r => by
    cases r with
    | cons r t => exact .cons ⟨r, [], key_reads r⟩ (each_keys t)
theorem op_sortK (hc : X.calm = true) (hu : X.A.units + 64 < cLine) : CallR X (.builtin "sorted") rSortK := by
  intro pins s σ H xs us Q I r q
  obtain ⟨a, kvs, ex, hd, ok, q⟩ := q
  subst ex
  rw [Vals.ref1 r]
  obtain ⟨z, lo, vs, rel, dd⟩ := dk_rd I.hok hd
  obtain ⟨ep, hat⟩ := dd.dictAt
  have ek : (kvs.map fun p => (kD p.1, kV p.1)) = vs.map fun p => (kD p.1, kV p.1) := by
    have e := congrArg (List.map fun k => (kD k, kV k)) rel.keys
    rw [List.map_map, List.map_map] at e
    exact e
  rw [ek] at ok q
  have zl : vs.length ≤ sizeLine := by rw [← rel.length]; exact z
  refine sort_src hu I (vs.map fun p => (kD p.1, kV p.1)) (gives_kdl (PySem.W.kdl_dict (knd := mixKind X.prog X.w) (kvs := vs) (ep := ep) lo) hc I hat zl fun acc hacc => ?_) (by rw [List.length_map]; exact zl) ok q
  exact each_keys (keys_at (by rw [Array.length_toList]; exact hacc.1) fun j v e => hacc.2 j v (by rw [← Array.getElem?_toList]; exact e))
abbrev rSortT : List V → Hp → VK → Prop := fun vs H Q => ∃ (a : Addr) (kvs : List (List Key × V)), vs = [.ref a] ∧ Rd H a (.dT kvs) ∧ SortOk (kvs.map fun p => kTD p.1) ∧
  ∀ (zs os : List (PyData × V)) (p : Addr), (∀ z ∈ zs, ∃ (b : Addr) (ks : List Key), z = (kTD ks, .ref b) ∧ H b = some (.tup (ks.map kV))) → os.Perm zs → os.map (·.1) = isort (kvs.map fun p => kTD p.1) → H p = none → Q (.ref p) (upd H p (.lst (os.map (·.2))))
theorem each_keysT {P : Program} {w : World} {H : Hp} {h : Heap} : ∀ {kvs : List (List Key × V)} {ks : List (List Key × Addr × Value)}, KT H kvs ks → (kvs.map fun p => kTD p.1) = (ks.map fun x => ((kTD x.1, V.ref x.2.1) : PyData × V)).map (·.1)
  | _, _, .nil => rfl
  | _, _, .cons h t => by
    rw [List.map_cons, List.map_cons, List.map_cons, each_keysT (P := P) (w := w) (h := ‹Heap›) t, h.1]
theorem kt_mem {H : Hp} : ∀ {kvs : List (List Key × V)} {ks : List (List Key × Addr × Value)}, KT H kvs ks → ∀ x ∈ ks, H x.2.1 = some (.tup (x.1.map kV))
  | _, _, .nil, _, m => (nomatch m)
  | _, _, .cons h t, x, m => by
    rcases List.mem_cons.mp m with rfl | m
    · rw [← h.1]; exact h.2.1
    · exact kt_mem t x m
theorem op_sortT (hc : X.calm = true) (hu : X.A.units + 64 < cLine) : CallR X (.builtin "sorted") rSortT := by
  intro pins s σ H xs us Q I r q
  obtain ⟨d, kvs, ex, hd, ok, q⟩ := q
  subst ex
  rw [Vals.ref1 r]
  obtain ⟨z, hs, ks, pr, o, es, ep, ho, hx, hdt, he, hn⟩ := (show ObjOk X.prog X.w H s.heap d (.dT kvs) from hd.ok I.hok)
  have l1 : es.size = ks.length := size_of_entries he
  have l2 : kvs.length = ks.length := Paired.length pr
  have ek := each_keysT (P := X.prog) (w := X.w) (h := s.heap) pr
  have mm := kt_mem pr
  refine sort_src hu I (ks.map fun x => ((kTD x.1, V.ref x.2.1) : PyData × V)) (gives_kdl (kdl_raw hs hx hdt) hc I ho (by omega) fun acc it => ?_) (by rw [List.length_map]; omega) (by rw [← ek]; exact ok) fun os p pm e np => q _ os p (fun z m => ?_) pm (by rw [ek]; exact e) np
  · have ea : acc.toList = ks.map fun x => Value.ref x.2.1 := by
      refine List.ext_getElem? fun j => ?_
      rw [List.getElem?_map]
      cases hj : acc.toList[j]? with
      | none =>
        have h1 := List.getElem?_eq_none_iff.mp hj
        have hl : acc.toList.length = ks.length := by rw [Array.length_toList, it.1, l1]
        rw [List.getElem?_eq_none (by omega)]; rfl
      | some v =>
        obtain ⟨en, hen, hv⟩ := it.2 j v (by rw [← Array.getElem?_toList]; exact hj)
        have qe : es[j]? = (ks[j]?).map (entryOfKey (tupleKind (mixKind X.prog X.w))) := by
          rw [← Array.getElem?_toList, he, List.getElem?_map]
        rw [hen] at qe
        cases hb : ks[j]? with
        | none => rw [hb] at qe; cases qe
        | some b =>
          rw [hb] at qe
          have e2 : en = entryOfKey (tupleKind (mixKind X.prog X.w)) b := Option.some.inj qe
          rw [hv, e2]; rfl
    rw [ea]
    have all : ∀ l : List (List Key × Addr × Value), (∀ x ∈ l, H x.2.1 = some (.tup (x.1.map kV))) → PySem.W.EachIs (fun u (z : PyData × V) => RelV z.2 u ∧ ∃ as, Reads s.heap u z.1 as) (l.map fun x => Value.ref x.2.1) (l.map fun x => ((kTD x.1, V.ref x.2.1) : PyData × V)) := by
      intro l
      induction l with
      | nil => intro _; exact .nil
      | cons x l ih => intro m; exact .cons ⟨rfl, [], keyT_reads I (m x List.mem_cons_self)⟩ (ih fun y my => m y (List.mem_cons_of_mem _ my))
    exact all ks mm
  · obtain ⟨x, mx, rfl⟩ := List.mem_map.mp m
    exact ⟨x.2.1, x.1, rfl, mm x mx⟩
abbrev rSortTup (K : PySem.W.Frag) : List V → Hp → VK → Prop := fun vs H Q => ∃ (a : Addr) (xs : List V) (l : List PyData), vs = [.ref a] ∧ SqT K H a xs ∧ DpAll K H xs l ∧ SortOk l ∧
  ∀ (os : List (PyData × V)) (p : Addr), os.Perm (l.zip xs) → os.map (·.1) = isort l → H p = none → Q (.ref p) (upd H p (.lst (os.map (·.2))))
theorem DpAll.len {H : Hp} : ∀ {xs : List V} {l : List PyData}, DpAll K H xs l → xs.length = l.length := fun h => by
  induction h using DpAll.rec (motive_1 := fun _ _ _ => True) with
  | nil => rfl
  | cons _ _ _ ih => simp [ih]
  | _ => trivial
theorem op_sortTup (hu : X.A.units + 64 < cLine) : CallR X (.builtin "sorted") (rSortTup X.K) := by
  intro pins s σ H vs us Q I r q
  obtain ⟨a, xs, l, ex, hs, hd, ok, q⟩ := q
  subst ex
  rw [Vals.ref1 r]
  obtain ⟨its, rv, ht, hz⟩ := I.tuple hs
  have hl := DpAll.len hd
  have z1 : (l.zip xs).map (·.1) = l := List.map_fst_zip (by omega)
  have zl : (l.zip xs).length ≤ sizeLine := by rw [List.length_zip]; omega
  refine sort_src hu I (l.zip xs) (gives_tup ht (by rw [← rv.length]; exact hz) ?_) zl (by rw [z1]; exact ok) fun os p pm e np => q os p pm (by rw [z1] at e; exact e) np
  have each : ∀ {us : List Value} {vs : List V} {ds : List PyData}, Vals vs us → DpAll X.K H vs ds → PySem.W.EachIs (fun u (z : PyData × V) => RelV z.2 u ∧ ∃ as, Reads s.heap u z.1 as) us (ds.zip vs) := by
    intro us vs ds rv hd
    induction rv generalizing ds with
    | nil => cases hd; exact .nil
    | cons r1 _ ih =>
      cases hd with
      | cons h1 h2 => exact .cons ⟨r1, Dp.reads I _ _ _ h1 r1⟩ (ih h2)
  exact each rv hd
def keysK (l : List (Key × PyData)) : List PyData := l.map fun p => kD p.1
def keysT (l : List (List Key × PyData)) : List PyData := l.map fun p => kTD p.1
def sortA (x : Ob) : Option Ob := match x with
  | .dk l => if okSort (keysK l) then some (.lst (isort (keysK l))) else none
  | .dt l => if okSort (keysT l) then some (.lst (isort (keysT l))) else none
  | .fr (.tuple l) => if okSort l then some (.lst (isort l)) else none
  | x => sortO x
theorem dpzs_all {Z : Zs} {H : Hp} : ∀ {os : List (PyData × V)}, (∀ z ∈ os, DpZ K Z H z.2 z.1) → DpZs K Z H (os.map (·.2)) (os.map (·.1))
  | [], _ => .nil
  | z :: os, m => .cons (m z List.mem_cons_self) (dpzs_all fun y h => m y (List.mem_cons_of_mem _ h))
theorem ktd_rep {Z : Zs} {H : Hp} {b : Addr} {ks : List Key} (h : H b = some (.tup (ks.map kV))) : DpZ K Z H (.ref b) (kTD ks) := by
  refine .tup h ?_
  have all : ∀ ks : List Key, DpZs K Z H (ks.map kV) (ks.map kD) := by
    intro ks
    induction ks with
    | nil => exact .nil
    | cons k ks ih => exact .cons (kD_rep Z H k) ih
  exact all ks
abbrev rSortAll (K : PySem.W.Frag) : List V → Hp → VK → Prop := fun vs H Q => rSortK vs H Q ∨ (rSortT vs H Q ∨ (rSortTup K vs H Q ∨ rSortA K vs H Q))
theorem op_sortAll (hc : X.calm = true) (hu : X.A.units + 64 < cLine) : CallR X (.builtin "sorted") (rSortAll X.K) := (op_sortK hc hu).or ((op_sortT hc hu).or ((op_sortTup hu).or (op_sortA hu)))
theorem keysK_eq {κ : Type} [DecidableEq κ] {Z : Zs} {H : Hp} {kvs : List (κ × V)} {kds : List (κ × PyData)} (f : κ → PyData) (h : DKv K Z H kvs kds) : (kvs.map fun p => f p.1) = kds.map fun p => f p.1 := by
  have e := congrArg (List.map f) h.keys
  rw [List.map_map, List.map_map] at e
  exact e
theorem rd_sortAll : RdL K (rSortAll K) (g1 sortA) := fun Z H vs os o' Q za rs e k => by
  obtain ⟨x, rfl, e2⟩ := g1_some e
  clear e
  have e := e2
  clear e2
  unfold sortA at e
  split at e
  · rename_i l
    obtain ⟨c, rfl⟩ := ite_ob e
    cases rs with
    | cons r t =>
      cases t
      cases r with
      | @dk a kvs _ h d =>
        have ek : ((kvs.map fun p => (kD p.1, kV p.1)).map (·.1)) = keysK l := by
          rw [List.map_map]; exact keysK_eq kD d
        refine .inl ⟨_, _, rfl, .of h, by rw [ek]; exact okSort_ok c, fun os p pm eo np => ?_⟩
        rw [ek] at eo
        have dz : DpZs K Z H (os.map (·.2)) (os.map (·.1)) := dpzs_all fun z m => by
          obtain ⟨p, _, rfl⟩ := List.mem_map.mp (pm.mem_iff.mp m)
          exact kD_rep Z H p.1
        rw [eo] at dz
        exact k.lst dz za p np
  · rename_i l
    obtain ⟨c, rfl⟩ := ite_ob e
    cases rs with
    | cons r t =>
      cases t
      cases r with
      | @dt a kvs _ h d =>
        have ek : (kvs.map fun p => kTD p.1) = keysT l := keysK_eq kTD d
        refine .inr (.inl ⟨_, _, rfl, .of h, by rw [ek]; exact okSort_ok c, fun zs os p mz pm eo np => ?_⟩)
        rw [ek] at eo
        have dz : DpZs K Z H (os.map (·.2)) (os.map (·.1)) := dpzs_all fun z m => by
          obtain ⟨b, ks, rfl, hb⟩ := mz z (pm.mem_iff.mp m)
          exact ktd_rep hb
        rw [eo] at dz
        exact k.lst dz za p np
  · rename_i l
    obtain ⟨c, rfl⟩ := ite_ob e
    cases rs with
    | cons r t =>
      cases t
      obtain ⟨a, xs, rfl, hs, hd⟩ := asTup_rep r rfl
      refine .inr (.inr (.inl ⟨a, xs, l, rfl, hs, hd.dp, okSort_ok c, fun os p pm eo np => ?_⟩))
      have dz : DpZs K Z H (os.map (·.2)) (os.map (·.1)) := hd.of_ix fun z m => by
        obtain ⟨i, hi⟩ := List.mem_iff_getElem?.mp (pm.mem_iff.mp m)
        have q := List.getElem?_zip_eq_some.mp hi
        exact ⟨i, q.2, q.1⟩
      rw [eo] at dz
      exact k.lst dz za p np
  · exact .inr (.inr (.inr (rd_sort Z H vs _ o' Q za rs (show g1 sortO [_] = some o' from e) k)))
end
end DL

namespace DL
open PySem PySem.Spec PyProof.Rows L2

/-! ## tables put together -/
section
variable {κ : Type} [DecidableEq κ]
def mergeV (kvs : List (κ × V)) : List (κ × V) → List (κ × V)
  | [] => kvs
  | p :: r => mergeV (putK kvs p.1 p.2) r
variable {K : PySem.W.Frag} {Z : Zs} {H : Hp}
theorem DKv.puts {more : List (κ × V)} {moreD : List (κ × PyData)} (h : DKv K Z H more moreD) : ∀ {kvs : List (κ × V)} {kds : List (κ × PyData)}, DKv K Z H kvs kds → DKv K Z H (mergeV kvs more) (putsD kds moreD) := by
  induction h with
  | nil => intro _ _ q; exact q
  | cons r _ ih => intro _ _ q; exact ih (q.put _ r)
theorem mergeV_length : ∀ (more kvs : List (κ × V)), (mergeV kvs more).length ≤ kvs.length + more.length
  | [], kvs => by show kvs.length ≤ kvs.length + 0; omega
  | p :: r, kvs => by
    have h1 := mergeV_length r (putK kvs p.1 p.2)
    have h2 := length_putK kvs p.1 p.2
    show (mergeV (putK kvs p.1 p.2) r).length ≤ _
    rw [List.length_cons]; omega
end
theorem mergeK_eq : ∀ (more kvs : List (Key × V)), mergeK kvs more = mergeV kvs more
  | [], _ => rfl
  | p :: r, kvs => mergeK_eq r (putK kvs p.1 p.2)
theorem kv_merge {more : List (Key × V)} {rs : List (Key × Value)} (r : KV more rs) : ∀ {kvs : List (Key × V)} {vs : List (Key × Value)}, KV kvs vs → KV (mergeV kvs more) (merged vs rs) := fun {kvs vs} q => by
  rw [← mergeK_eq]; exact KV.merge r q
theorem kt_merge {H : Hp} {more : List (List Key × V)} {ys : List (List Key × Addr × Value)} (r : KT H more ys) : ∀ {kvs : List (List Key × V)} {xs : List (List Key × Addr × Value)}, KT H kvs xs → KT H (mergeV kvs more) (storedAllH xs ys) := by
  induction r with
  | nil => intro _ _ q; exact q
  | @cons p q ps qs h t ih =>
    intro kvs xs r0
    have e : KT H (putK kvs p.1 p.2) (storedH xs q.1 q.2.1 q.2.2) := by
      rw [← h.1]
      exact r0.put p.1 h.2.1 h.2.2
    exact ih e
section
variable {X : Cx}
abbrev rUpd : V → List V → Hp → VK → Prop := fun x xs H Q => ∃ (a b : Addr), x = .ref a ∧ xs = [.ref b] ∧ a ≠ b ∧
  ((∃ kvs more : List (Key × V), H a = some (.dK kvs) ∧ H b = some (.dK more) ∧ kvs.length + more.length ≤ sizeLine ∧ Q .non (upd H a (.dK (mergeV kvs more)))) ∨
   ∃ kvs more : List (List Key × V), H a = some (.dT kvs) ∧ H b = some (.dT more) ∧ kvs.length + more.length ≤ sizeLine ∧ (kvs ≠ [] ∨ more.length ≤ 1) ∧ Q .non (upd H a (.dT (mergeV kvs more))))
theorem mt_upd (hu : X.A.units + 64 < cLine) : MtR X "dict.update" rUpd := by
  intro pins s σ H x xs v us Q I rx rxs h
  obtain ⟨a, b, rfl, rfl, ne, h⟩ := h
  cases rx
  obtain ⟨u, rfl, r1⟩ := vals1 rxs
  cases r1
  rcases h with ⟨kvs, more, ha, hb, hz, q⟩ | ⟨kvs, more, ha, hb, hz, hap, q⟩
  · obtain ⟨z1, d1, vs, rel1, dd1⟩ := dk_of I.hok ha
    obtain ⟨z2, d2, ws, rel2, dd2⟩ := dk_of I.hok hb
    refine call_meetsIn PySem.F.slot_dict_update dd1.typeIs PySem.F.entry_dict_update (PySem.F.args_dict_update_2 _ _) (meets_dict_update (mixKind X.prog X.w) a b ne d2)
      ⟨vs, ws, dd1, dd2, by rw [← rel1.length, ← rel2.length]; exact hz, fun h' dd' _ hs => ?_⟩
    have he : ∃ q, h'.get? a = some q := let ⟨q, _, _, hq, _⟩ := dd'; ⟨q, hq⟩
    exact ⟨.non, _, d_write (t' := s.toks) I (by rw [ha]; exact True.intro) hs he (dk_new (Nat.le_trans (mergeV_length more kvs) hz) d1 (kv_merge rel2 rel1) dd'), rfl, q⟩
  · obtain ⟨z1, d1, vs, rel1, dd1⟩ := dt_of I.hok ha
    obtain ⟨z2, d2, ws, rel2, dd2⟩ := dt_of I.hok hb
    refine call_update_dictH (knd := tupleKind (mixKind X.prog X.w)) (tupleKind_room_in1 (by omega)) ne d2 dd1 dd2 ?_ (by rw [← Paired.length rel1, ← Paired.length rel2]; exact hz) fun h' dd' _ hs => ?_
    · rcases hap with n | n
      · refine .inl fun e => n ?_
        have hl := Paired.length rel1
        rw [e] at hl
        exact List.length_eq_zero_iff.mp hl
      · refine .inr ⟨fun x m => (tupleKind_stays (knd := mixKind X.prog X.w)).tuple (s := s) (k := x.1) ?_, ?_⟩
        · obtain ⟨_, _, _, _, _, _, _, his, _⟩ := dd2
          exact his x m
        · have hl := Paired.length rel2
          rw [hl] at n
          match ws, n with
          | [], _ => exact List.nodup_nil
          | [_], _ => simp
          | _ :: _ :: _, n => simp at n
    · obtain ⟨o, es, ep, hq, h2, h3, h4, _, h5⟩ := dd'
      refine ⟨.non, _, d_write (t' := s.toks) (ob := .dT (mergeV kvs more)) I (by rw [ha]; exact True.intro) hs ⟨o, hq⟩ ⟨Nat.le_trans (mergeV_length more kvs) hz, d1, _, (kt_merge rel2 rel1).keeps fun c ys ec => ?_, o, es, ep, hq, h2, h3, h4, h5⟩, rfl, q⟩
      rw [upd_ne (ne_of ec ha (fun z => nomatch z))]
      exact ec
def fUpd (i : Nat) (f : F1) : FS := fun ρ => (f ρ).bind fun o => match ρ[i]?, o with
  | some (some (.dk l)), .dk m => if lt24 (l.length + m.length) then some (.nx (ρ.set i (some (.dk (putsD l m))))) else none
  | some (some (.dt l)), .dt m => if (!l.isEmpty || Nat.ble m.length 1) && lt24 (l.length + m.length) then some (.nx (ρ.set i (some (.dt (putsD l m))))) else none
  | _, _ => none
variable {B : List Nat} {pos apos cpos npos : Pos} {e : Expr} {f : F1} {x : Str}
theorem Rst.gone {H H' : Hp} {Z Z' : Zs} {g : List Addr} {a : Addr} {o : HO} (h : H a = some o) (fr : Fr H [] Z H' g Z') : a ∉ g := fun m => (nomatch (fr.new a o h m))
theorem s_update (i : Nat) (hu : X.A.units + 64 < cLine) (he : DP X e f) (hN : X.N[i]? = some x := by rfl) (hv : Vis X.env.scope x := by first | exact Or.inl rfl | exact Or.inr (Or.inl rfl) | exact Or.inr (Or.inr rfl)) (hd : (x == ("__debug__" : Str)) = false := by decide)
    (hcd : (x == ("__classdict__" : Str)) = false := by decide) (hfew : ((backTo cpos (starEach [e] X.env)).all (fun x => !x.1) && (backToKw cpos (keywordEach [] X.env)).all (fun x => x.1.isSome) && decide (([e] : List Expr).length + ([] : List Keyword).length + (if ([] : List Keyword).isEmpty then 0 else 1) < 30)) = true := by rfl) (hln : (apos.endLine == cpos.line) = true := by rfl) (hs : starEach [e] X.env = (false, eval e X.env) :: starEach [] X.env := by rfl) (hq : swapsWith (.Call (.Attribute (.Name x npos) "update" apos) [e] [] cpos) none pos.line X.env = pure false := by rfl) :
    DS X B (.Expr (.Call (.Attribute (.Name x npos) "update" apos) [e] [] cpos) pos) (fUpd i f) := PS.imp (ps_expr (pe_bm PySem.F.plainAttrs_dict PySem.F.slot_dict_update PySem.F.type_dict_update (mt_upd hu) (pe_var hN hv hd hcd) (pa_cons he pa_nil hs) (hfew := hfew) (hline := hln) (hs := hs)) hq) fun D σ H h => by
  obtain ⟨Z, ρ, fp, r, S, e, k⟩ := h
  obtain ⟨o, eo, e⟩ := bind_some e
  split at e
  · rename_i l m el
    split at e
    · rename_i c
      cases e
      have c2 := lt24_ok c
      obtain ⟨v, g, h1, h2, _, _⟩ := S.write el
      cases h2 with
      | @dk a kvs _ hh dd =>
        refine ⟨.ref a, h1, .inr (.inr (.inl ⟨rfl, .inl ⟨_, hh⟩⟩)), Z, ρ, fp, _, S, eo, fun Z1 H1 v1 g1 r1 o1 a1 => ?_⟩
        have na : a ∉ g1 := Rst.gone hh a1
        have a1' : Fr H [] Z H1 [] Z1 := a1.less fun _ m => (nomatch m)
        have S1 := S.still a1'
        obtain ⟨v', g', h1', h2', ow, wr⟩ := S1.write el
        rw [h1] at h1'
        cases h1'
        cases h2' with
        | @dk _ kvs' _ hh' dd' =>
          cases r1 with
          | @dk b more _ hb db =>
            refine ⟨a, b, rfl, rfl, fun q => na (by simp [q]), .inl ⟨kvs', more, hh', hb, by rw [dd'.length, db.length]; exact Nat.le_of_lt c2, ?_⟩⟩
            have nz := ow.nz a List.mem_cons_self
            have nt : ∀ xs, H1 a ≠ some (.tup xs) := fun xs q => by rw [hh'] at q; cases q
            obtain ⟨fp', S3, _, f3⟩ := wr _ (upd H1 a (.dK (mergeV kvs' more))) (.dk (putsD l m)) [a] [] (Fr.upd1 ⟨_, hh'⟩ List.mem_cons_self) (.dk upd_same ((db.upd nz nt).puts (dd'.upd nz nt))) (ow.upd1 trivial)
            exact k _ _ σ fp' S3 ((tail_fr a1').trans f3) .rfl
    · cases e
  · rename_i l m el
    split at e
    · rename_i c
      cases e
      obtain ⟨c1, c2⟩ := Bool.and_eq_true_iff.mp c
      have c2 := lt24_ok c2
      obtain ⟨v, g, h1, h2, _, _⟩ := S.write el
      cases h2 with
      | @dt a kvs _ hh dd =>
        refine ⟨.ref a, h1, .inr (.inr (.inl ⟨rfl, .inr ⟨_, hh⟩⟩)), Z, ρ, fp, _, S, eo, fun Z1 H1 v1 g1 r1 o1 a1 => ?_⟩
        have na : a ∉ g1 := Rst.gone hh a1
        have a1' : Fr H [] Z H1 [] Z1 := a1.less fun _ m => (nomatch m)
        have S1 := S.still a1'
        obtain ⟨v', g', h1', h2', ow, wr⟩ := S1.write el
        rw [h1] at h1'
        cases h1'
        cases h2' with
        | @dt _ kvs' _ hh' dd' =>
          cases r1 with
          | @dt b more _ hb db =>
            refine ⟨a, b, rfl, rfl, fun q => na (by simp [q]), .inr ⟨kvs', more, hh', hb, by rw [dd'.length, db.length]; exact Nat.le_of_lt c2, ?_, ?_⟩⟩
            · rcases Bool.or_eq_true_iff.mp c1 with c1 | c1
              · refine .inl fun q => ?_
                have hl := dd'.length
                rw [q] at hl
                cases l with
                | nil => cases c1
                | cons _ _ => simp at hl
              · exact .inr (by rw [db.length]; exact Nat.le_of_ble_eq_true c1)
            have nz := ow.nz a List.mem_cons_self
            have nt : ∀ xs, H1 a ≠ some (.tup xs) := fun xs q => by rw [hh'] at q; cases q
            obtain ⟨fp', S3, _, f3⟩ := wr _ (upd H1 a (.dT (mergeV kvs' more))) (.dt (putsD l m)) [a] [] (Fr.upd1 ⟨_, hh'⟩ List.mem_cons_self) (.dt upd_same ((db.upd nz nt).puts (dd'.upd nz nt))) (ow.upd1 trivial)
            exact k _ _ σ fp' S3 ((tail_fr a1').trans f3) .rfl
    · cases e
  · cases e
end

/-! ## dict(pairs) -/
section
variable {X : Cx} {K : PySem.W.Frag}
abbrev rDictT (K : PySem.W.Frag) : List V → Hp → VK → Prop := fun xs H Q => ∃ (a : Addr) (ps : List Addr) (qs : List (List Key × Addr × V)), xs = [.ref a] ∧ SqL K H a (ps.map V.ref) ∧
  Paired (fun p q => SqT K H p [.ref q.2.1, q.2.2] ∧ H q.2.1 = some (.tup (q.1.map kV))) ps qs ∧ ∀ p, H p = none → Q (.ref p) (upd H p (.dT (mergeV [] (qs.map fun q => (q.1, q.2.2)))))
theorem pairs_ofT {pins : List (Addr × Obj)} {σ : L2.St} {H : Hp} {s : Shared} (I : Inv X pins σ H s) : ∀ {ps : List Addr} {qs : List (List Key × Addr × V)}, Paired (fun p q => SqT X.K H p [.ref q.2.1, q.2.2] ∧ H q.2.1 = some (.tup (q.1.map kV))) ps qs →
    ∃ prs : List (List Key × Addr × Value), KT H (qs.map fun q => (q.1, q.2.2)) prs ∧ prs.length = ps.length ∧ ∀ (j : Nat) (q : List Key × Addr × Value), prs[j]? = some q → ∃ b : Addr, ps[j]? = some b ∧ IsTup s.heap b #[.ref q.2.1, q.2.2]
  | _, _, .nil => ⟨[], .nil, rfl, fun j q e => by simp at e⟩
  | _, _, .cons (a := p) (b := q) h t => by
    obtain ⟨prs, r, hl, hp⟩ := pairs_ofT I t
    obtain ⟨its, rv, ht, _⟩ := I.tuple h.1
    obtain ⟨u, y, rfl, ru, ry⟩ := vals2 rv
    cases ru
    refine ⟨(q.1, q.2.1, y) :: prs, .cons ⟨rfl, h.2, ry⟩ r, by rw [List.length_cons, List.length_cons, hl], fun j q' e => ?_⟩
    cases j with
    | zero =>
      have e' : (q.1, q.2.1, y) = q' := Option.some.inj e
      subst e'
      exact ⟨p, rfl, ht⟩
    | succ j =>
      obtain ⟨b, e1, e2⟩ := hp j q' (by simpa using e)
      exact ⟨b, by simpa using e1, e2⟩
theorem op_dictT (hc : X.calm = true) (hu : X.A.units + 64 < cLine) : CallR X (.type "dict") (rDictT X.K) := by
  intro pins s σ H xs us Q I r q
  obtain ⟨a, ps, qs, ex, hq, hp, q⟩ := q
  subst ex
  rw [Vals.ref1 r]
  obtain ⟨its, rv, pl, hz⟩ := I.list hq
  have ei := refs_at rv
  subst ei
  rw [List.length_map] at hz
  obtain ⟨prs, rel, hl, hpr⟩ := pairs_ofT I hp
  obtain ⟨o, n, ho, hcl, hd, hdat⟩ := pl
  have mm := kt_mem rel
  let pv : List (Value × Value) := prs.map fun x => (Value.ref x.2.1, x.2.2)
  have hpl : pv.length = prs.length := List.length_map _
  have items : PairItems s.heap (ps.map Value.ref).toArray (fun j => ps.getD j 0) pv := by
    refine ⟨by rw [List.size_toArray, List.length_map, hpl, hl], fun j k v e => ?_⟩
    have e : (prs[j]?).map (fun x => (Value.ref x.2.1, x.2.2)) = some (k, v) := by rw [← List.getElem?_map]; exact e
    obtain ⟨x, ex, e⟩ := Option.map_eq_some_iff.mp e
    cases e
    obtain ⟨b, e1, e2⟩ := hpr j x ex
    have e3 : ps.getD j 0 = b := by rw [List.getD_eq_getElem?_getD, e1]; rfl
    show (List.map Value.ref ps).toArray[j]? = some (Value.ref (ps.getD j 0)) ∧ PairAt s.heap (ps.getD j 0) (Value.ref x.snd.fst) x.snd.snd
    rw [e3]
    refine ⟨by rw [List.getElem?_toArray, List.getElem?_map, e1]; rfl, .inl ?_⟩
    obtain ⟨ob, h1, h2, n2, h3⟩ := e2
    exact ⟨ob, h1, h2, n2, h3⟩
  refine call_dict_pairsH (knd := tupleKind (mixKind X.prog X.w)) (ps := prs) (PairArg.list a _ _ pv) (I.ok.hd hc) (by show X.A.units + 1 + 1 < cLine; omega) ⟨⟨o, n, ho, hcl, hd, hdat⟩, items⟩ ⟨hpl.symm, fun i key v e => ?_⟩ (fun h' hk x mx => ?_) (by rw [hpl, hl]; exact hz) fun h' tk dd' hk => ?_
  · have e : (prs[i]?).map (fun x => (Value.ref x.2.1, x.2.2)) = some (key, v) := by rw [← List.getElem?_map]; exact e
    obtain ⟨x, ex, e⟩ := Option.map_eq_some_iff.mp e
    cases e
    exact ⟨x.1, x.2.1, ex, rfl⟩
  · have I' : Inv X pins σ H { s with heap := h', toks := s.toks } := I.kept fun b u e => hk b u (Nat.ne_of_lt (Heap.lt_size e)) (by simp) e
    exact key_of I'.hok (mm x mx)
  · have I' : Inv X pins σ H { s with heap := h', toks := tk } := I.kept fun b u e => hk b u (by simp) e
    have hm : (s.heap.objs.size == sysModules) = false := beq_eq_false_iff_ne.mpr (Nat.ne_of_gt I.big)
    have nH := I.hok.fresh (Nat.le_refl s.heap.objs.size)
    have hlen : (mergeV [] (qs.map fun q => (q.1, q.2.2))).length ≤ sizeLine := by
      refine Nat.le_trans (mergeV_length _ []) ?_
      have := Paired.length rel
      rw [List.length_nil, Nat.zero_add, this, hl]
      exact hz
    obtain ⟨ob, es, ep, hq2, h2, h3, h4, _, h5⟩ := dd'
    refine ⟨.ref s.heap.objs.size, _, I.laid (a := s.heap.objs.size) (o := .dT (mergeV [] (qs.map fun q => (q.1, q.2.2)))) (t' := tk) (fun b u e => hk b u (by simp) e) (Nat.le_refl _) ⟨hlen, hm, _, (kt_merge rel .nil).keeps fun c ys ec => ?_, ob, es, ep, hq2, h2, h3, h4, h5⟩, rfl, q _ nH⟩
    rw [upd_ne (ne_of_none ec nH)]
    exact ec
def pairsK : List PyData → Option (List (Key × PyData))
  | [] => some []
  | .tuple [k, v] :: r => (dkey k).bind fun k => (pairsK r).bind fun l => some ((k, v) :: l)
  | _ => none
def pairsT : List PyData → Option (List (List Key × PyData))
  | [] => some []
  | .tuple [k, v] :: r => (dkeyT k).bind fun k => (pairsT r).bind fun l => some ((k, v) :: l)
  | _ => none
def dictO (x : Ob) : Option Ob := (asLst x).bind fun l => match pairsK l with
  | some kvs => some (.dk (putsD [] kvs))
  | none => (pairsT l).bind fun kvs => some (.dt (putsD [] kvs))
theorem pairsK_rep {Z : Zs} {H : Hp} : ∀ {l : List PyData} {vs : List V} {kds : List (Key × PyData)}, DpZs K Z H vs l → pairsK l = some kds → ∃ (ps : List Addr) (kvs : List (Key × V)), vs = ps.map V.ref ∧ Paired (fun p kv => SqT K H p [kV kv.1, kv.2]) ps kvs ∧ DKv K Z H kvs kds
  | [], _, _, h, e => by cases e; cases h; exact ⟨[], [], rfl, .nil, .nil⟩
  | d :: l, _, kds, h, e => by
    unfold pairsK at e
    split at e
    · rename_i h0; cases h0
    · rename_i k v r h0
      cases h0
      obtain ⟨kk, ek, e⟩ := bind_some e
      obtain ⟨m, em, e⟩ := bind_some e
      cases e
      cases h with
      | cons h t =>
        obtain ⟨ps, kvs, rfl, hp, hd⟩ := pairsK_rep t em
        obtain ⟨b, xs, rfl, hb, tb⟩ := h.tupAt
        cases tb with
        | cons t1 t2 => cases t2 with
          | cons t2 t3 =>
            cases t3
            rw [dkey_rep t1 ek] at hb
            exact ⟨b :: ps, (kk, _) :: kvs, rfl, .cons (.of hb) hp, .cons t2 hd⟩
    · cases e
theorem pairsT_rep {Z : Zs} {H : Hp} : ∀ {l : List PyData} {vs : List V} {kds : List (List Key × PyData)}, DpZs K Z H vs l → pairsT l = some kds → ∃ (ps : List Addr) (qs : List (List Key × Addr × V)), vs = ps.map V.ref ∧ Paired (fun p q => SqT K H p [.ref q.2.1, q.2.2] ∧ H q.2.1 = some (.tup (q.1.map kV))) ps qs ∧ DKv K Z H (qs.map fun q => (q.1, q.2.2)) kds
  | [], _, _, h, e => by cases e; cases h; exact ⟨[], [], rfl, .nil, .nil⟩
  | d :: l, _, kds, h, e => by
    unfold pairsT at e
    split at e
    · rename_i h0; cases h0
    · rename_i k v r h0
      cases h0
      obtain ⟨kk, ek, e⟩ := bind_some e
      obtain ⟨m, em, e⟩ := bind_some e
      cases e
      cases h with
      | cons h t =>
        obtain ⟨ps, qs, rfl, hp, hd⟩ := pairsT_rep t em
        obtain ⟨b, xs, rfl, hb, tb⟩ := h.tupAt
        cases tb with
        | cons t1 t2 => cases t2 with
          | cons t2 t3 =>
            cases t3
            obtain ⟨c, rfl, hcc⟩ := dkeyT_rep t1 ek
            exact ⟨b :: ps, (kk, c, _) :: qs, rfl, .cons ⟨.of hb, hcc⟩ hp, .cons t2 hd⟩
    · cases e
abbrev rDictA (K : PySem.W.Frag) : List V → Hp → VK → Prop := fun xs H Q => (∃ (a : Addr) (ps : List Addr) (kvs : List (Key × V)), xs = [.ref a] ∧ SqL K H a (ps.map V.ref) ∧ Paired (fun p kv => SqT K H p [kV kv.1, kv.2]) ps kvs ∧
    ∀ p, H p = none → Q (.ref p) (upd H p (.dK (mergeK [] kvs)))) ∨ rDictT K xs H Q
theorem op_dictA (hc : X.calm = true) (hu : X.A.units + 64 < cLine) : CallR X (.type "dict") (rDictA X.K) := (call_dictP hc).or (op_dictT hc hu)
theorem rd_dictA : RdL K (rDictA K) (g1 dictO) := .one fun Z H v o a o' Q za r e k => by
  obtain ⟨l, el, e⟩ := bind_some e
  obtain ⟨p, vs, rfl, s, t⟩ := asLst_rep r el
  split at e
  · rename_i kds ek
    cases e
    obtain ⟨ps, kvs, rfl, hp, hd⟩ := pairsK_rep t ek
    refine .inl ⟨p, ps, kvs, rfl, .of s, hp, ?_⟩
    rw [mergeK_eq]
    exact Rst.new1 k za trivial fun p H' q a => .dk q ((hd.puts .nil).keep a.zup (fun b u _ e => a.same b u e (by simp)) fun b xs e => a.same b _ e (by simp))
  · obtain ⟨kds, ek, e⟩ := bind_some e
    cases e
    obtain ⟨ps, qs, rfl, hp, hd⟩ := pairsT_rep t ek
    refine .inr ⟨p, ps, qs, rfl, .of s, hp, ?_⟩
    exact Rst.new1 k za trivial fun p H' q a => .dt q ((hd.puts .nil).keep a.zup (fun b u _ e => a.same b u e (by simp)) fun b xs e => a.same b _ e (by simp))
end
end DL

namespace DL
open PySem PySem.Spec PyProof.Rows L2

/-! ## table comprehensions of both kinds of keys: my own walk, in three parts (a store, the loop in its block, the block) -/
section
variable {X : Cx} {pins : List (Addr × Obj)} {σ : L2.St} {H H' : Hp} {s : Shared} {D : Addr} {y z : V} {u r : Value} {E : Value → Shared → Prop} {Q : Unit → Shared → Prop}
theorem put_comp (hu : X.A.units < cLine) (I : Inv X pins σ H s) (g : DPut H D y z H') (ry : RelV y u) (rz : RelV z r) (h : ∀ s', Inv X pins σ H' s' → Q () s') : wpAny (model X.prog X.w) X.A (dictSet D u r) Q E s := by
  rcases g with ⟨kvs, k, hD, rfl, hz, rfl⟩ | ⟨kvs, k, b, hD, rfl, hb, hz, rfl⟩
  · exact d_dictSet I hD hz ry rz h
  · cases ry
    obtain ⟨hl, nm, xs, rel, dd⟩ := dt_of I.hok hD
    have lx := Paired.length rel
    refine wpAny_dictSet_heap (knd := tupleKind (mixKind X.prog X.w)) (hsz := by omega) hu (key_of I.hok hb) dd fun h' dd' same => h _ ?_
    obtain ⟨o, es, ep, e1, e2, e3, e4, _, e5⟩ := dd'
    have pl := length_putK kvs k z
    have keep := (rel.put k hb rz).keeps (H' := upd H D (.dT (putK kvs k z))) fun c ys ec => (upd_ne (ne_of ec hD fun q => nomatch q)).trans ec
    exact d_write (ob := .dT (putK kvs k z)) I (by rw [hD]; trivial) same ⟨o, e1⟩ ⟨by omega, nm, _, keep, o, es, ep, e1, e2, e3, e4, e5⟩
end
/-- what a turn of the loop does -/
abbrev TblStep (g : TG) (tt : TT) (tk tv : TE) (vs : List Nat) (σ : L2.St) (D : Addr) (J : It) (Wn : Nat → Nat → Hp → Prop) (Qd : Hp → Prop) : Prop := ∀ i m H, Wn i m H →
  (J.stop i H ∧ Qd H) ∨ (J.go i H ∧ ∃ Nx : Hp → Prop, (∀ H', Nx H' → ∃ m', m' < m ∧ Wn (i + 1) m' H') ∧ ∀ x H', J.yld i H x H' → g x (L2.wipe σ vs) H' fun σ2 H2 => L2.wipe σ2 vs = L2.wipe σ vs ∧ tt σ2 H2 fun b H3 =>
    if b = true then tk σ2 H3 fun y H4 => tv σ2 H4 fun z H5 => ∃ H6, DPut H5 D y z H6 ∧ Nx H6 else Nx H3)
def tTbl (E0 : HO) (wi : TI) (g : TG) (tt : TT) (tk tv : TE) (vs : List Nat) : TE := fun σ H Q => wi σ H fun J H1 => ∀ D, H1 D = none → ∃ Wn : Nat → Nat → Hp → Prop, (∃ m, Wn 0 m (upd H1 D E0)) ∧ TblStep g tt tk tv vs σ D J Wn (Q (.ref D))
section
variable {Y : Cx} {kx vx tg iter : Expr} {ifs : List Expr} {scope : Scope} {pos : Pos} {g : TG} {tt : TT} {tk tv : TE} {vs : List Nat} {σ : L2.St} {D it : Addr} {J : It} {fp : List Addr} {tn : Nat → Heap → Prop} {Wn : Nat → Nat → Hp → Prop} {Qd : Hp → Prop} {R : Result → Shared → Prop}
/-- the state of the block between two turns -/
structure Between (Y : Cx) (fp : List Addr) (tn : Nat → Heap → Prop) (vs : List Nat) (σ : L2.St) (i : Nat) (H : Hp) (s : Shared) : Prop where
  inv : Inv Y [] (L2.wipe σ vs) H s
  at_ : tn i s.heap
  off : ∀ b ∈ fp, H b = none
theorem tbl_loop (T : Turn Y.prog Y.w Y.K tg J fp it tn) (calm : Y.calm = true) (hu : Y.A.units < cLine) (silent : Y.xe = fun _ _ => False)
    (free : ∀ (σ' : L2.St) (H' : Hp) (s' : Shared), Inv Y [] σ' H' s' → (∀ b ∈ fp, H' b = none) → ∀ b ∈ fp, FpOk Y [] H' b) (pg : PG Y tg g) (pt : PTs Y ifs tt) (pk : PE Y kx tk) (pv : PE Y vx tv)
    (step : TblStep g tt tk tv vs σ D J Wn Qd) (stop : ∀ H' s', Inv Y [] (L2.wipe σ vs) H' s' → Qd H' → R (.ok .next) s') {m0 : Nat} {H0 : Hp} {s0 : Shared} (b0 : Between Y fp tn vs σ 0 H0 s0) (w0 : Wn 0 m0 H0) :
    codeAny (model Y.prog Y.w) Y.A (.compLoop (.DictComp kx vx [⟨tg, iter, ifs, 0⟩] scope pos) 0 (.ref it) (.ref D) Y.env) R s0 := by
  have quiet : ∀ {α : Type} {t : Sem α} {Q Q' : α → Shared → Prop} {E : Value → Shared → Prop} {s : Shared}, wpAny (model Y.prog Y.w) Y.A t Q Y.xe s → (∀ a s', Q a s' → Q' a s') → wpAny (model Y.prog Y.w) Y.A t Q' E s := by
    intro α t Q Q' E s h k
    rw [silent] at h
    exact wpAny_mono h k fun _ _ f => f.elim
  refine compLoop_anyD (fun m s => ∃ i H, Between Y fp tn vs σ i H s ∧ Wn i m H) ?_ m0 ⟨0, H0, b0, w0⟩
  rintro m s ⟨i, H, ⟨inv, here, off⟩, w⟩
  rcases step i m H w with ⟨st, fin⟩ | ⟨go, Nx, next, turn⟩
  · refine wpAny_mono (T.done Y rfl rfl rfl calm i [] s _ H _ inv (free _ _ _ inv off) here st) (fun r s1 hr => ?_) fun _ _ x => x
    obtain ⟨rfl, inv1⟩ := hr
    exact stop H s1 inv1 fin
  · refine wpAny_mono (T.item Y rfl rfl rfl calm i [] s _ H _ inv (free _ _ _ inv off) here go) (fun r s1 hr => ?_) fun _ _ x => x
    obtain ⟨u, rfl, hr⟩ := hr
    refine wpAny_mono hr (fun _ s2 h2 => ?_) fun _ _ x => x
    obtain ⟨x, H2, inv2, rx, yl, here2, off2⟩ := h2
    -- the iterator's own objects stay while the body runs
    have held := inv2.pinned (free _ _ _ inv2 off2) (T.obj _ _ here2)
    refine quiet (pg.run _ s2 _ H2 x u _ held rx (turn x H2 yl)) fun _ s3 h3 => ?_
    obtain ⟨σ3, H3, inv3, back, q3⟩ := h3
    have over : ∀ (s' : Shared) (H' : Hp), Inv Y ([] ++ pinsAt fp s2.heap) σ3 H' s' → Nx H' → ∃ m', m' < m ∧ ∃ i H, Between Y fp tn vs σ i H s' ∧ Wn i m' H := by
      intro s' H' inv' nx
      obtain ⟨m', lt, w'⟩ := next H' nx
      have same : ∀ b ∈ fp, ∀ o, s2.heap.get? b = some o → s'.heap.get? b = some o ∧ H' b = none := fun b mb o e => by
        have p := inv'.pin (b, o) (List.mem_append_right _ (List.mem_append_right _ (mem_pinsAt mb e)))
        exact ⟨p.1, p.2.1⟩
      have len : (L2.wipe σ vs).length = σ3.length := (congrArg List.length back).symm.trans (wipe_length σ3 vs)
      refine ⟨m', lt, i + 1, H', ⟨?_, T.keep _ _ _ here2 fun b mb o e => (same b mb o e).1, fun b mb => ?_⟩, w'⟩
      · refine (inv'.unpinned (pins := [])).weak len fun j v e => ?_
        rw [← back] at e
        exact (wipe_some e).1
      · obtain ⟨o, e, _⟩ := T.obj _ _ here2 b mb
        exact (same b mb o e).2
    refine quiet (pt.run _ s3 σ3 H3 _ inv3 q3) fun b s4 h4 => ?_
    obtain ⟨H4, inv4, q4⟩ := h4
    by_cases hb : b = true
    · rw [if_pos hb] at q4 ⊢
      refine quiet (pk.run _ s4 σ3 H4 _ inv4 q4) fun kv s5 h5 => ?_
      obtain ⟨y, H5, inv5, ry, q5⟩ := h5
      refine quiet (pv.run _ s5 σ3 H5 _ inv5 q5) fun vv s6 h6 => ?_
      obtain ⟨z, H6, inv6, rz, H7, put, nx⟩ := h6
      exact put_comp hu inv6 put ry rz fun s7 inv7 => over s7 H7 inv7 nx
    · rw [if_neg hb] at q4 ⊢
      exact over s4 H4 inv4 q4
end
section
variable {X : Cx} {kx vx tg iter : Expr} {ifs : List Expr} {scope : Scope} {own : List (Str × Nat)} {pos : Pos} {wi : TI} {g : TG} {tt : TT} {tk tv : TE} {E0 : HO}
theorem pe_tbl (hE : ∀ (H : Hp) (h : Heap), sysModules < h.objs.size → ObjOk X.prog X.w H (h.push { cls := .type "dict", data := .dict #[] }) h.objs.size E0) (hc : X.calm = true) (hu : X.A.units < cLine) (hN : X.N.Nodup) (hi : PI X tg iter wi) (ok : BlkOk X.N X.env.scope scope own)
    (hg : BlkAll X scope fun X => PG X tg g) (ht : BlkAll X scope fun X => PTs X ifs tt) (hk : BlkAll X scope fun X => PE X kx tk) (hv : BlkAll X scope fun X => PE X vx tv) (hs : ∀ x, foldedSetIterable iter X.env x = pure x) :
    PE X (.DictComp kx vx [⟨tg, iter, ifs, 0⟩] scope pos) (tTbl E0 wi g tt tk tv (own.map (·.2))) := by
  constructor
  intro pins s σ H Q I h
  rw [arm_eval_DictComp]
  have cl : ∀ y ∈ scope.names, y.2 = .free → ∃ c, X.env.cells.lookup y.1 = some c := fun y my e => I.ok.has _ (ok.free y my e)
  refine wpAny_comprehension_free (use := none) rfl hs (closure_ok cl) ok.kind (fun y my e => (ok.uniq y my).trans (congrArg some e)) (thn (hi.run pins s σ H _ I h) fun xv s1 h1 => thn h1 fun itv s2 h2 => ?_)
  obtain ⟨it, fp, tn, J, H2, rfl, I2, T, here, fpo, q⟩ := h2
  refine wpAny_newObj_type (newEnv_comp ?_)
  have nD : H2 s2.heap.objs.size = none := I2.hok.fresh (Nat.le_refl _)
  obtain ⟨Wn, ⟨m0, w0⟩, step⟩ := q _ nD
  -- the table is there, then the block's frame
  have I3 : Inv X pins σ (upd H2 s2.heap.objs.size E0) { s2 with heap := s2.heap.push { cls := .type "dict", data := .dict #[] } } :=
    I2.laid (a := s2.heap.objs.size) (t' := s2.toks) (fun b o e => Heap.get?_push_of_some _ e) (Nat.le_refl _) (hE _ _ I2.big)
  have low : ∀ b ∈ fp, b < s2.heap.objs.size := fun b mb => let ⟨_, e, _⟩ := T.obj _ _ here b mb; Heap.lt_size e
  have fpo3 : ∀ b ∈ fp, FpOk X pins (upd H2 s2.heap.objs.size E0) b := fun b mb =>
    ⟨(upd_ne (Nat.ne_of_lt (low b mb))).trans (fpo b mb).1, (fpo b mb).2⟩
  have I4 := block_start I3 ok hN fun b mb => ⟨fpo3 b mb, by
    show b < (s2.heap.push _).objs.size
    rw [Heap.size_push]
    exact Nat.lt_succ_of_lt (low b mb)⟩
  have here4 := T.keep _ _ (pushCells ((s2.heap.push { cls := .type "dict", data := .dict #[] }).push { cls := .type "dict", data := .dict #[] }) scope.names) here fun b _ o e => pushCells_keeps _ _ _ _ (Heap.get?_push_of_some _ (Heap.get?_push_of_some _ e))
  refine codeAny_compStart_dict ?_ (T.self X.A 0 _ _ _ here4 ?_)
  all_goals
    refine tbl_loop (Y := X.blk _ _ scope _ fp) (R := compPost (model X.prog X.w) X.A X.xe none _ _ _) T hc hu rfl (fun σ' H' s' inv off b mb => ⟨off b mb, (inv.ok.exf b mb).1, inv.ok.exfs b mb, .inl mb, fun x c e => (inv.ok.exf b mb).2 x c e, fun p mp => absurd (show p ∈ ([] : List (Addr × Obj)) ++ [] from mp) (by simp)⟩)
      (hg _ _ _ _ _) (ht _ _ _ _ _) (hk _ _ _ _ _) (hv _ _ _ _ _) step (fun H' s' inv fin => ?_) ⟨I4, here4, fun b mb => (fpo3 b mb).1⟩ w0
    obtain ⟨mm, hn, _⟩ := inv.loc
    have home := I3.call' (ch := fp) inv.os inv.base inv.hok inv.bare fun b mb => ⟨(fpo3 b mb).2.2.2.1, (fpo3 b mb).2.1, (fpo3 b mb).2.2.2.2.1, (fpo3 b mb).2.2.2.2.2⟩
    refine ⟨mm, hn, fun h'' sb => ?_⟩
    obtain ⟨f0, f1, f2, f3, f4, f5⟩ := I3.fpOk (H' := H') (Nat.le_refl _) inv.free
    exact ⟨.ref s2.heap.objs.size, H', home.turned (t' := s'.toks) (fun b o hb e => (sb.2 b hb).trans e) f0 f1 f3 f4 f5, rfl, fin⟩
end
end DL

namespace DL
open PySem PySem.Spec PyProof.Rows L2

/-! ## table comprehensions on data -/
/-- one of the two sorts of tables -/
structure TabK (K : PySem.W.Frag) (κ : Type) [DecidableEq κ] where
  hob : List (κ × V) → HO
  ob : List (κ × PyData) → Ob
  key : PyData → Option κ
  nt : ∀ l xs, hob l ≠ .tup xs
  put : ∀ {Z : Zs} {H : Hp} {D : Addr} {av : List (κ × V)} {y z : V} {d : PyData} {k : κ}, DpZ K Z H y d → key d = some k → H D = some (hob av) → av.length < sizeLine → DPut H D y z (upd H D (hob (putK av k z)))
  rep : ∀ {Z : Zs} {H : Hp} {a : Addr} {kvs : List (κ × V)} {kds : List (κ × PyData)}, H a = some (hob kvs) → DKv K Z H kvs kds → RepO K Z H (.ref a) (ob kds) [a]
  new : ∀ (P : Program) (w : World) (H : Hp) (h : Heap), sysModules < h.objs.size → ObjOk P w H (h.push { cls := .type "dict", data := .dict #[] }) h.objs.size (hob [])
def tabK (K : PySem.W.Frag) : TabK K Key where
  hob := .dK
  ob := .dk
  key := dkey
  nt := fun _ _ h => nomatch h
  put := fun r e h hl => by rw [dkey_rep r e]; exact .k h hl
  rep := fun h d => .dk h d
  new := fun P w H h hb => dk_empty h hb
def tabT (K : PySem.W.Frag) : TabK K (List Key) where
  hob := .dT
  ob := .dt
  key := dkeyT
  nt := fun _ _ h => nomatch h
  put := fun r e h hl => by
    obtain ⟨b, rfl, hb⟩ := dkeyT_rep r e
    exact .t h hb hl
  rep := fun h d => .dt h d
  new := fun P w H h hb => dt_empty h hb
def dcL (ga : FT) (tt : FB) (tk tv : F1) : List PyData → Env → Option (List (PyData × PyData))
  | [], _ => some []
  | d :: ds, ρ => (ga d ρ).bind fun ρ1 => (tt ρ1).bind fun b => if b then (tk ρ1).bind fun o => (fz o).bind fun x => (tv ρ1).bind fun o' => (fz o').bind fun x' => (dcL ga tt tk tv ds ρ).bind fun r => some ((x, x') :: r) else dcL ga tt tk tv ds ρ
def keyed {κ : Type} (key : PyData → Option κ) : List (PyData × PyData) → Option (List (κ × PyData))
  | [] => some []
  | p :: r => (key p.1).bind fun k => (keyed key r).bind fun l => some ((k, p.2) :: l)
def oDc {κ : Type} [DecidableEq κ] (key : PyData → Option κ) (ob : List (κ × PyData) → Ob) (n : Nat) (vs : List Nat) (fi : FD) (ga : FT) (tt : FB) (tk tv : F1) : F1 := fun ρ => if Nat.beq ρ.length n then (fi ρ).bind fun ds => if short ds then (dcL ga tt tk tv ds (wipeE ρ vs)).bind fun l => (keyed key l).bind fun kds => some (ob (putsD [] kds)) else none else none
section
variable {X : Cx} {K : PySem.W.Frag} {pos : Pos} {fi : FD} {ga : FT} {tt : FB} {tk tv : F1} {n : Nat} {vs : List Nat} {κ : Type} [DecidableEq κ]
theorem putsD_put (kds : List (κ × PyData)) (k : κ) (d : PyData) (r : List (κ × PyData)) : putsD kds ((k, d) :: r) = putsD (putD kds k d) r := rfl
theorem runDc (T : TabK K κ) {σ : L2.St} {H : Hp} {Q : VK} (h : tP K (oDc T.key T.ob n vs fi ga tt tk tv) σ H Q) : tTbl (T.hob []) (tI K fi) (tG K (offs n vs) ga) (tT K tt) (tP K tk) (tP K tv) vs σ H Q := by
  obtain ⟨Z, ρ, fp, o, S, e, k⟩ := h
  have e : (if Nat.beq ρ.length n = true then (fi ρ).bind fun ds => if short ds = true then (dcL ga tt tk tv ds (wipeE ρ vs)).bind fun l => (keyed T.key l).bind fun kds => some (T.ob (putsD [] kds)) else none else none) = some o := e
  split at e
  · rename_i hn
    have hn : ρ.length = n := Nat.eq_of_beq_eq_true hn
    obtain ⟨ds, ed, e⟩ := bind_some e
    split at e
    · rename_i hs
      have hs := short_ok hs
      obtain ⟨l, el, e⟩ := bind_some e
      obtain ⟨kds, ek, e⟩ := bind_some e
      cases e
      refine ⟨Z, ρ, fp, ds, S, ed, fun Z1 H1 J it a1 D nD => ?_⟩
      have S1 := S.still a1
      have za1 := S1.za
      have nzD : ¬ Z1 D := fun z => by
        obtain ⟨o, q⟩ := za1 D z
        rw [nD] at q; cases q
      refine ⟨fun i m H2 => ∃ Z2 av ad rest rk, m = ds.length - i ∧ i ≤ ds.length ∧ H2 D = some (T.hob av) ∧ DKv K Z2 H2 av ad ∧ ¬ Z2 D ∧ av.length ≤ i ∧ Fr H1 [] Z1 H2 [D] Z2 ∧ dcL ga tt tk tv (ds.drop i) (wipeE ρ vs) = some rest ∧ keyed T.key rest = some rk ∧ putsD ad rk = putsD [] kds,
        ⟨_, Z1, [], [], l, kds, rfl, Nat.zero_le _, upd_same, .nil, nzD, Nat.le_refl _, upd_fr nD Z1 (fun _ z => z) (fun _ z => .inl z) (fun b m => by simpa using m), el, ek, rfl⟩, ?_⟩
      rintro i m H2 ⟨Z2, av, ad, rest, rk, rfl, hi, hD, dv, nz2, hlen, a2, e2, ek2, el2⟩
      have a2' : Fr H1 [] Z1 H2 [] Z2 := a2.less fun _ m => (nomatch m)
      have S2 := S1.still a2'
      obtain ⟨go, stop⟩ := it i Z2 H2 ⟨a2.zup, fun b u z e => a2.same b u e (by simp), fun b xs e => a2.same b _ e (by simp)⟩ S2.za
      by_cases hlt : i < ds.length
      · obtain ⟨g1, g2⟩ := go ds[i] (List.getElem?_eq_getElem hlt)
        rw [List.drop_eq_getElem_cons hlt] at e2
        obtain ⟨ρ3, e3, e2⟩ := bind_some (show ((ga ds[i] (wipeE ρ vs)).bind fun ρ1 => (tt ρ1).bind fun b => if b = true then (tk ρ1).bind fun o => (fz o).bind fun x => (tv ρ1).bind fun o' => (fz o').bind fun x' => (dcL ga tt tk tv (ds.drop (i + 1)) (wipeE ρ vs)).bind fun r => some ((x, x') :: r) else dcL ga tt tk tv (ds.drop (i + 1)) (wipeE ρ vs)) = some rest from e2)
        obtain ⟨b, eb, e2⟩ := bind_some e2
        refine .inr ⟨g1, fun H' => ∃ Z2 av ad rest rk, i + 1 ≤ ds.length ∧ H' D = some (T.hob av) ∧ DKv K Z2 H' av ad ∧ ¬ Z2 D ∧ av.length ≤ i + 1 ∧ Fr H1 [] Z1 H' [D] Z2 ∧ dcL ga tt tk tv (ds.drop (i + 1)) (wipeE ρ vs) = some rest ∧ keyed T.key rest = some rk ∧ putsD ad rk = putsD [] kds, fun H' ⟨Z2, av, ad, rest, rk, q⟩ => ⟨_, by omega, Z2, av, ad, rest, rk, rfl, q⟩, fun x H3 y => ?_⟩
        obtain ⟨Z3, dx, a3⟩ := g2 x H3 y
        have step : ∀ {Z4 : Zs} {H4 : Hp}, Fr H2 [] Z2 H4 [] Z4 → H4 D = some (T.hob av) ∧ DKv K Z4 H4 av ad ∧ ¬ Z4 D ∧ Fr H1 [] Z1 H4 [D] Z4 := fun {Z4 H4} a4 => by
          refine ⟨a4.same _ _ hD (by simp), dv.keep a4.zup (fun b o _ q => a4.same b o q (by simp)) fun b xs q => a4.same b _ q (by simp), fun z => ?_, a2.trans (tail_fr a4)⟩
          rcases a4.znew D _ hD z with z | z
          · exact nz2 z
          · cases z
        have S3 := S2.still a3
        obtain ⟨fpw, Sw, _⟩ := S3.wipe vs
        refine ⟨Z3, _, fpw, ds[i], ρ3, Sw, dx, e3, fun σ4 fp4 S4 s4 k4 => ⟨wipe_back (by rw [S.er.len]; exact hn) k4, Z3, ρ3, fp4, b, S4, eb, fun Z5 H5 a5 => ?_⟩⟩
        have a35 := a3.trans a5
        cases b with
        | false =>
          rw [if_neg Bool.false_ne_true] at e2
          refine L2.iteF ?_
          obtain ⟨s1, s2, s3, s4⟩ := step a35
          exact ⟨Z5, av, ad, rest, rk, hlt, s1, s2, s3, by omega, s4, e2, ek2, el2⟩
        | true =>
          rw [if_pos rfl] at e2
          refine L2.iteT ?_
          obtain ⟨o6, e6, e2⟩ := bind_some e2
          obtain ⟨x6, ex6, e2⟩ := bind_some e2
          obtain ⟨o7, e7, e2⟩ := bind_some e2
          obtain ⟨x7, ex7, e2⟩ := bind_some e2
          obtain ⟨r6, er6, e2⟩ := bind_some e2
          cases e2
          obtain ⟨kk, ekk, ek2⟩ := bind_some (show ((T.key x6).bind fun k => (keyed T.key r6).bind fun l => some ((k, x7) :: l)) = some rk from ek2)
          obtain ⟨rk', erk, ek2⟩ := bind_some ek2
          cases ek2
          refine ⟨Z5, ρ3, fp4, o6, S4.still a5, e6, fun Z6 H6 v6 g6 r6' o6' a6 => ?_⟩
          have a6' := a6.frz0 o6'
          have S6 := (S4.still a5).still a6'
          refine ⟨_, ρ3, fp4, o7, S6, e7, fun Z7 H7 v7 g7 r7 o7' a7 => ?_⟩
          have a7' := a7.frz0 o7'
          obtain ⟨s1, s2, s3, s4⟩ := step ((a35.trans a6').trans a7')
          have dk := (r6'.frz ex6).still a7'
          have dz := r7.frz ex7
          have nt : ∀ xs, H7 D ≠ some (.tup xs) := fun xs q => by rw [s1] at q; exact T.nt _ _ (Option.some.inj q)
          have pl := length_putK av kk v7
          refine ⟨upd H7 D (T.hob (putK av kk v7)), T.put dk ekk s1 (by omega), _, putK av kk v7, putD ad kk x7, r6, rk', hlt, upd_same, (s2.upd s3 nt).put kk (dz.upd s3 nt), s3, by omega, s4.trans (Fr.upd1 ⟨_, s1⟩ (by simp)), er6, erk, el2⟩
      · have hl : ds.length ≤ i := Nat.le_of_not_lt hlt
        rw [List.drop_eq_nil_of_le hl] at e2
        cases e2
        cases ek2
        have el2 : ad = putsD [] kds := el2
        rw [← el2] at k
        have own : Own Z2 H2 [D] := ⟨by simp, fun a m => by rw [List.mem_singleton.mp m]; exact nz2, fun a m => by
          rw [List.mem_singleton.mp m]
          refine ⟨_, hD, ?_⟩
          have := T.nt av
          cases hm : T.hob av <;> first | trivial | exact absurd hm (this _)⟩
        exact .inl ⟨stop hl, k Z2 H2 (.ref D) [D] (T.rep hD dv) own (a1.trans a2)⟩
    · cases e
  · cases e
theorem d_dc (T : TabK X.K κ) {kx vx tg iter : Expr} {ifs : List Expr} {scope : Scope} (own : List (Str × Nat)) {n : Nat} (hu : X.A.units + 64 < cLine) (hc : X.calm = true) (hN : X.N.Nodup) (hi : DI X tg iter fi) (ok : BlkOk X.N X.env.scope scope own)
    (hg : BlkAll X scope fun X => DG X (offs n (own.map (·.2))) tg ga) (ht : BlkAll X scope fun X => TDs X ifs tt) (hk : BlkAll X scope fun X => DP X kx tk) (hv : BlkAll X scope fun X => DP X vx tv) (hs : ∀ x, foldedSetIterable iter X.env x = pure x := by intro _; rfl) :
    DP X (.DictComp kx vx [⟨tg, iter, ifs, 0⟩] scope pos) (oDc T.key T.ob n (own.map (·.2)) fi ga tt tk tv) := PE.imp (pe_tbl (T.new X.prog X.w) hc (by omega) hN hi ok hg ht hk hv hs) fun _ _ _ h => runDc T h
end
end DL

namespace DL
open PySem PySem.Spec PyProof.Rows L2

/-! ## enumerate(tuple) -/
theorem meets_enum1 {v : Value} {o : Obj} {Hq : Heap → Prop} (Bg : Begins v o Hq) : Meets (Builtin.«enumerate.__new__» ⟨[.type "enumerate", v], []⟩) (fun _ R s => Hq s.heap ∧
    R (.ok (.ret (.ref (s.heap.push o).objs.size))) { s with heap := (s.heap.push o).push { cls := .type "enumerate", data := .fields #[.none, .bool false, .ref s.heap.objs.size, rawInt 0, .none, .none] } }) :=
  .of_wp fun prog w A R s h => by
    obtain ⟨hp, g, d, tk, os⟩ := s
    obtain ⟨h1, h⟩ := h
    have sub := sub_enumerate
    have begun : ∀ {A' : Around} {E : Value → Shared → Prop} {Q : Value → Shared → Prop}, Q (.ref hp.objs.size) ⟨hp.push o, g, d, tk, os⟩ → wpAny (model prog w) A' (pyIter v) Q E ⟨hp, g, d, tk, os⟩ :=
      fun q => Bg.iter prog w _ _ ⟨hp, g, d, tk, os⟩ _ h1 q
    wp_walk using begun
    refine wpAny_stack_any fun st => wpAny_pure ?_
    split
    · rename_i c _ _ _ _ _
      cases (c == Value.type "enumerate") <;> (wp_walk using begun; exact ⟨_, rfl, h⟩)
    · wp_walk using begun
      exact ⟨_, rfl, h⟩
theorem enum_new {prog : Program} {w : World} {A : Around} {E : Value → Shared → Prop} {s : Shared} {v : Value} {o : Obj} {Hq : Heap → Prop} {Q : Value → Shared → Prop} (Bg : Begins v o Hq) (h1 : Hq s.heap)
    (h : ∀ h', IsEnum h' (s.heap.objs.size + 1) s.heap.objs.size 0 .none → h'.get? s.heap.objs.size = some o → (∀ b o, s.heap.get? b = some o → h'.get? b = some o) → Q (.ref (s.heap.objs.size + 1)) { s with heap := h' }) :
    wpAny (model prog w) A (call (.type "enumerate") [v]) Q E s := by
  refine callType_new F.called_enumerate (by decide) (F.typeCall_enumerate_1 _) (F.newCall_enumerate_1 _) (fun obj => F.args_object_init_2 obj _) F.entry_enumerate_new (meets_enum1 Bg) ⟨h1, ?_⟩
  generalize hob : ({ cls := .type "enumerate", data := .fields #[.none, .bool false, .ref s.heap.objs.size, rawInt 0, .none, .none] } : Obj) = ob
  have sz : (s.heap.push o).objs.size = s.heap.objs.size + 1 := Heap.size_push ..
  have at1 : ((s.heap.push o).push ob).get? (s.heap.objs.size + 1) = some ob := by
    rw [← sz, ← hob]
    exact Heap.get?_push_size _ rfl
  have at0 : ((s.heap.push o).push ob).get? s.heap.objs.size = some o := Heap.get?_push_of_some _ (Heap.get?_push_size _ Bg.free)
  show _ ∧ _
  rw [sz]
  refine ⟨⟨_, at1, by rw [← hob]⟩, h _ (by rw [← hob] at at1 ⊢; exact at1) at0 fun b u e => Heap.get?_push_of_some _ (Heap.get?_push_of_some _ e)⟩
/-- the tuple at a, each item in a new pair -/
def IteT (K : PySem.W.Frag) (a : Addr) : It :=
  ⟨fun i H => ∃ (xs : List V) (x : V), SqT K H a xs ∧ xs[i]? = some x, fun i H v H' => ∃ T x, v = .ref T ∧ H T = none ∧ H' = upd H T (.tup [.int (i : Nat), x]) ∧ ∀ xs, SqT K H a xs → xs[i]? = some x, fun i H => ∃ xs : List V, SqT K H a xs ∧ xs.length ≤ i⟩
theorem turn_enumT {P : Program} {w : World} {K : PySem.W.Frag} {elts : List Expr} {kk : Nat} {tpos : Pos} (a e it : Addr) (hae : a ≠ e) (hai : a ≠ it) :
    Turn P w K (.Tuple elts kk tpos) (IteT K a) [e, it] e (fun i h => (∃ old, IsEnum h e it ((i : Nat) : Int) old) ∧ h.IsTupleIter it a i ∧ e ≠ it) where
  mem := by simp
  obj := fun i h st b hb => by
    obtain ⟨⟨old, he⟩, ⟨o, ho, hc, hd⟩, _⟩ := st
    rcases List.mem_cons.mp hb with rfl | hb
    · exact ⟨_, he, fun v q => nomatch q⟩
    · obtain rfl : b = it := by simpa using hb
      exact ⟨o, ho, fun v q => by rw [hd] at q; cases q⟩
  keep := fun i h h' st k => by
    obtain ⟨⟨old, he⟩, hi, hne⟩ := st
    exact ⟨⟨old, k e (by simp) _ he⟩, hi.at fun o q => k it (by simp) o q, hne⟩
  item := by
    intro X hP hw hK hc i pins s σ H E I hf st hg
    subst hP hw hK
    obtain ⟨⟨old, he⟩, hit, hne⟩ := st
    obtain ⟨xs, x, hq, hx⟩ := hg
    obtain ⟨its, rv, p, _⟩ := I.tuple hq
    obtain ⟨u, hu, ru⟩ := rv.get hx
    have le : e < s.heap.objs.size := Heap.lt_size he
    have li : it < s.heap.objs.size := let ⟨_, q, _⟩ := hit; Heap.lt_size q
    have lts : i < its.toArray.size := by
      rw [List.size_toArray]
      exact (List.getElem?_eq_some_iff.mp hu).1
    refine wpAny_pyNext_enum_itemD (Draws.tuple (A := X.A.in1) (I.ok.hd hc) it a hai its.toArray) he ⟨hit, p⟩ lts hne (by simp [hne, Ne.symm hae]) fun y h' tk py ho hst hT hsz hk => ?_
    have ey : y = u := by
      rw [List.getElem?_toArray, hu] at py
      exact (Option.some.inj py).symm
    subst ey
    refine ⟨_, rfl, wpAny_letOwnedTupleGo_enum (s := { s with heap := h', toks := tk + 1 }) ho fun h'' he' sb => ?_⟩
    have new : ObjOk X.prog X.w (upd H s.heap.objs.size (.tup [.int (i : Nat), x])) h'' s.heap.objs.size (.tup [.int (i : Nat), x]) :=
      ⟨show 2 ≤ sizeLine by decide, [.int i tk, y], .cons ⟨_, rfl⟩ (.cons ru .nil), ⟨_, (sb.2 _ (Nat.ne_of_gt le)).trans hT, rfl, _, rfl⟩⟩
    have I1 : Inv X pins σ (upd H s.heap.objs.size (.tup [.int (i : Nat), x])) { s with heap := h'', toks := tk + 1 } :=
      I.turnedNew (ch := [e, it]) (fun b ob hb q => by
        have h1 : b ≠ e := fun z => hb (by simp [z])
        have h2 : b ≠ it := fun z => hb (by simp [z])
        exact (sb.2 b h1).trans (hk b ob h1 h2 q)) hf (Nat.le_refl _) new
    refine ⟨.ref s.heap.objs.size, _, I1, rfl, ⟨_, x, rfl, I.hok.fresh (Nat.le_refl _), rfl, fun ys hy => by rw [I.tuple_inj hy hq]; exact hx⟩, ⟨⟨y, ?_⟩, hst.1.at fun o q => (sb.2 it (Ne.symm hne)).trans q, hne⟩, fun b hb => ?_⟩
    · rw [show ((i + 1 : Nat) : Int) = (i : Int) + 1 by omega]
      exact he'
    · have lb : b < s.heap.objs.size := by
        rcases List.mem_cons.mp hb with rfl | hb
        · exact le
        · obtain rfl : b = it := by simpa using hb
          exact li
      rw [upd_ne (Nat.ne_of_lt lb)]
      exact (hf b hb).1
  done := by
    intro X hP hw hK hc i pins s σ H E I hf st hg
    subst hP hw hK
    obtain ⟨⟨old, he⟩, hit, hne⟩ := st
    obtain ⟨xs, hq, hx⟩ := hg
    obtain ⟨its, rv, p, _⟩ := I.tuple hq
    obtain ⟨f0, f1, f2, f3, f4, f5⟩ := hf it (by simp)
    have hl := rv.length
    have D := Draws.tuple (prog := X.prog) (w := X.w) (A := X.A.in1) (I.ok.hd hc) it a hai its.toArray
    have D' : Draws X.prog X.w X.A.in1 it [it, a] 0 (fun _ _ => True) (fun _ h => h.IsTupleIter it a i ∧ h.IsTuple a its.toArray) :=
      { live := fun _ h st => D.live i h st
        frame := fun _ h h' st hk => D.frame i h h' st hk
        item := fun j s Q E hj _ _ => absurd hj (Nat.not_lt_zero j)
        done := fun s Q E st hE => wpAny_nextOf_tuple_end (A := X.A.in1) (I.ok.hd hc) st.1 st.2 (Array.getElem?_eq_none (by rw [List.size_toArray]; omega)) hE }
    exact wpAny_pyNext_enum_endD D' he ⟨hit, p⟩ fun h' eb => ⟨rfl, I.turned (t' := s.toks) (fun b o hb q => eb b o hb q) f0 f1 f3 f4 f5⟩
  self := fun A i s Q E st h => let ⟨⟨_, he⟩, _⟩ := st; wpAny_pyIter_enum he h
def iEnumT (K : PySem.W.Frag) (ta : TA) : TI := fun σ H R => ta σ H fun vs H1 => ∃ a xs, vs = [.ref a] ∧ SqT K H1 a xs ∧ R (IteT K a) H1
theorem pi_enumT {X : Cx} {e : Expr} {ta : TA} {p pos tpos : Pos} {elts : List Expr} {kk : Nat} (hg : Gl X "enumerate") (hm : X.mg "enumerate" = none) (ha : PA X [e] ta) (hs : starEach [e] X.env = [(false, eval e X.env)] := by rfl) :
    PI X (.Tuple elts kk tpos) (.Call (.Name "enumerate" p) [e] [] pos) (iEnumT X.K ta) := by
  refine ⟨fun pins s σ H R I h => Call_ (ld_blt I hg hm boot_enumerate (PyProof.Rows.callWith_type1 (thn (ha.run pos pins s σ H _ I h) fun us s1 q1 => ?_) hs rfl))⟩
  obtain ⟨vs, H1, I1, r1, a, xs, rfl, hq, q⟩ := q1
  rw [Vals.ref1 r1]
  obtain ⟨its, rv, p', _⟩ := I1.tuple hq
  have la : a < s1.heap.objs.size := let ⟨_, e, _⟩ := p'; Heap.lt_size e
  refine enum_new (begins_tuple a its.toArray) p' fun h' he hit hk => wpAny_pyIter_enum he ?_
  refine ⟨s1.heap.objs.size + 1, [s1.heap.objs.size + 1, s1.heap.objs.size], _, _, H1, rfl, I1.kept (t' := s1.toks) hk, turn_enumT a (s1.heap.objs.size + 1) s1.heap.objs.size (Nat.ne_of_lt (Nat.lt_succ_of_lt la)) (Nat.ne_of_lt la), ⟨⟨.none, he⟩, ⟨_, hit, rfl, rfl⟩, Nat.succ_ne_self _⟩, fun b hb => ?_, q⟩
  have le : s1.heap.objs.size ≤ b := by
    rcases List.mem_cons.mp hb with rfl | hb
    · exact Nat.le_succ _
    · obtain rfl : b = s1.heap.objs.size := by simpa using hb
      exact Nat.le_refl _
  exact I1.fpOk le (I1.hok.fresh le)

/-! ## the walks on data -/
def enumD : Nat → List PyData → List PyData
  | _, [] => []
  | i, d :: r => .tuple [.int (i : Nat), d] :: enumD (i + 1) r
def zipD : List PyData → List PyData → List PyData
  | x :: r, y :: t => .tuple [x, y] :: zipD r t
  | _, _ => []
theorem enumD_at : ∀ (l : List PyData) (a i : Nat) (d : PyData), (enumD a l)[i]? = some d → ∃ x, l[i]? = some x ∧ d = .tuple [.int ((a + i : Nat) : Int), x]
  | [], _, _, _, h => by simp [enumD] at h
  | x :: l, a, 0, d, h => by
    simp [enumD] at h
    exact ⟨x, rfl, h.symm⟩
  | x :: l, a, i + 1, d, h => by
    obtain ⟨y, h1, h2⟩ := enumD_at l (a + 1) i d (by simpa [enumD] using h)
    exact ⟨y, by simpa using h1, by rw [h2]; congr 4; omega⟩
theorem enumD_len : ∀ (l : List PyData) (a : Nat), (enumD a l).length = l.length
  | [], _ => rfl
  | _ :: l, a => by simp [enumD, enumD_len l]
theorem zipD_at : ∀ (l m : List PyData) (i : Nat) (d : PyData), (zipD l m)[i]? = some d → ∃ x y, l[i]? = some x ∧ m[i]? = some y ∧ d = .tuple [x, y]
  | [], _, _, _, h => by simp [zipD] at h
  | _ :: _, [], _, _, h => by simp [zipD] at h
  | x :: l, y :: m, 0, d, h => by
    simp [zipD] at h
    exact ⟨x, y, rfl, rfl, h.symm⟩
  | x :: l, y :: m, i + 1, d, h => by
    obtain ⟨a, b, h1, h2, h3⟩ := zipD_at l m i d (by simpa [zipD] using h)
    exact ⟨a, b, by simpa using h1, by simpa using h2, h3⟩
theorem zipD_len : ∀ (l m : List PyData), (zipD l m).length = min l.length m.length
  | [], _ => by simp [zipD]
  | _ :: _, [] => by simp [zipD]
  | x :: l, y :: m => by simp [zipD, zipD_len l m, Nat.succ_min_succ]
def iEnumD (fd : FD) : FD := fun ρ => (fd ρ).bind fun os => match os with
  | [d] => (dSeq d).map (enumD 0)
  | _ => none
def iZipD (fd : FD) : FD := fun ρ => (fd ρ).bind fun os => match os with
  | [.list l, .list m] => some (zipD l m)
  | [.tuple l, .tuple m] => some (zipD l m)
  | _ => none
section
variable {K : PySem.W.Frag} {Z Z2 : Zs} {H H2 : Hp} {a b : Addr}
theorem new_pair {T : Addr} {x y : V} {d e : PyData} (nT : H2 T = none) (h1 : DpZ K Z2 H2 x d) (h2 : DpZ K Z2 H2 y e) : ∃ Z3, DpZ K Z3 (upd H2 T (.tup [x, y])) (.ref T) (.tuple [d, e]) ∧ Fr H2 [] Z2 (upd H2 T (.tup [x, y])) [] Z3 := by
  have a : Fr H2 [] Z2 (upd H2 T (.tup [x, y])) [] Z2 := upd_fr nT Z2 (fun _ z => z) (fun _ z => .inl z) (fun b m => (nomatch m))
  exact ⟨Z2, .tup upd_same (.cons (h1.still a) (.cons (h2.still a) .nil)), a⟩
theorem iter_e {vs : List V} {l : List PyData} (hz : Z a) (hh : H a = some (.lst vs)) (t : DpZs K Z H vs l) : IterOk K Z H (Ite K a) (enumD 0 l) := fun i Z2 H2 k za => by
  have h2 : SqL K H2 a vs := .of (k.zs _ _ hz hh)
  refine ⟨fun d hd => ?_, fun hl => ⟨vs, h2, by rw [t.length, ← enumD_len l 0]; exact hl⟩⟩
  obtain ⟨x, hx, rfl⟩ := enumD_at l 0 i d hd
  obtain ⟨v, h3, h4⟩ := t.atD hx
  refine ⟨⟨vs, v, h2, h3⟩, fun x H3 y => ?_⟩
  obtain ⟨T, v', rfl, nT, rfl, hy⟩ := y
  have e := (hy vs h2).symm.trans h3
  cases e
  rw [Nat.zero_add]
  exact new_pair nT (.int _) (h4.kp k)
theorem iter_eT {vs : List V} {l : List PyData} (hh : H a = some (.tup vs)) (t : DpZs K Z H vs l) : IterOk K Z H (IteT K a) (enumD 0 l) := fun i Z2 H2 k za => by
  have h2 : SqT K H2 a vs := .of (k.ts _ _ hh)
  refine ⟨fun d hd => ?_, fun hl => ⟨vs, h2, by rw [t.length, ← enumD_len l 0]; exact hl⟩⟩
  obtain ⟨x, hx, rfl⟩ := enumD_at l 0 i d hd
  obtain ⟨v, h3, h4⟩ := t.atD hx
  refine ⟨⟨vs, v, h2, h3⟩, fun x H3 y => ?_⟩
  obtain ⟨T, v', rfl, nT, rfl, hy⟩ := y
  have e := (hy vs h2).symm.trans h3
  cases e
  rw [Nat.zero_add]
  exact new_pair nT (.int _) (h4.kp k)
theorem iter_z {vs ws : List V} {l m : List PyData} (hz : Z a) (hh : H a = some (.lst vs)) (t : DpZs K Z H vs l) (hz2 : Z b) (hh2 : H b = some (.lst ws)) (t2 : DpZs K Z H ws m) : IterOk K Z H (Itz K a b) (zipD l m) := fun i Z2 H2 k za => by
  have q1 : SqL K H2 a vs := .of (k.zs _ _ hz hh)
  have q2 : SqL K H2 b ws := .of (k.zs _ _ hz2 hh2)
  refine ⟨fun d hd => ?_, fun hl => ⟨vs, ws, q1, q2, ?_⟩⟩
  · obtain ⟨x, y, hx, hy, rfl⟩ := zipD_at l m i d hd
    obtain ⟨v, h3, h4⟩ := t.atD hx
    obtain ⟨w, h5, h6⟩ := t2.atD hy
    refine ⟨⟨vs, ws, v, w, q1, q2, h3, h5⟩, fun x H3 y => ?_⟩
    obtain ⟨T, v', w', rfl, nT, rfl, g1, g2⟩ := y
    cases (g1 vs q1).symm.trans h3
    cases (g2 ws q2).symm.trans h5
    exact new_pair nT (h4.kp k) (h6.kp k)
  · rw [zipD_len] at hl
    rw [t.length, t2.length]
    omega
theorem iter_zT {vs ws : List V} {l m : List PyData} (hh : H a = some (.tup vs)) (t : DpZs K Z H vs l) (hh2 : H b = some (.tup ws)) (t2 : DpZs K Z H ws m) : IterOk K Z H (RZ.ItzT K a b) (zipD l m) := fun i Z2 H2 k za => by
  have q1 : SqT K H2 a vs := .of (k.ts _ _ hh)
  have q2 : SqT K H2 b ws := .of (k.ts _ _ hh2)
  refine ⟨fun d hd => ?_, fun hl => ⟨vs, ws, q1, q2, ?_⟩⟩
  · obtain ⟨x, y, hx, hy, rfl⟩ := zipD_at l m i d hd
    obtain ⟨v, h3, h4⟩ := t.atD hx
    obtain ⟨w, h5, h6⟩ := t2.atD hy
    refine ⟨⟨vs, ws, v, w, q1, q2, h3, h5⟩, fun x H3 y => ?_⟩
    obtain ⟨T, v', w', rfl, nT, rfl, g1, g2⟩ := y
    cases (g1 vs q1).symm.trans h3
    cases (g2 ws q2).symm.trans h5
    exact new_pair nT (h4.kp k) (h6.kp k)
  · rw [zipD_len] at hl
    rw [t.length, t2.length]
    omega
end
section
variable {X : Cx} {tg e e2 a b c : Expr} {fd : FD} {fl : FL} {p pos tpos : Pos} {elts : List Expr} {kk : Nat}
theorem one_of {K : PySem.W.Frag} {Z : Zs} {H : Hp} {vs : List V} {d : PyData} (h : DpZs K Z H vs [d]) : ∃ v, vs = [v] ∧ DpZ K Z H v d := by
  cases h with
  | cons h t => cases t; exact ⟨_, rfl, h⟩
theorem two_of {K : PySem.W.Frag} {Z : Zs} {H : Hp} {vs : List V} {d e : PyData} (h : DpZs K Z H vs [d, e]) : ∃ v u, vs = [v, u] ∧ DpZ K Z H v d ∧ DpZ K Z H u e := by
  cases h with
  | cons h t => cases t with
    | cons h2 t => cases t; exact ⟨_, _, rfl, h, h2⟩
theorem i_enum (hg : Gl X "enumerate") (hm : X.mg "enumerate" = none) (ha : DA X [e] fd) (hs : starEach [e] X.env = [(false, eval e X.env)] := by rfl) : DI X (.Tuple elts kk tpos) (.Call (.Name "enumerate" p) [e] [] pos) (iEnumD fd) := PI.imp (DL.PI.or (pi_enum hg hm ha hs) (pi_enumT hg hm ha hs)) fun σ H R q => by
  obtain ⟨Z, ρ, fp, ds, S, e, k⟩ := q
  obtain ⟨os, eo, e⟩ := bind_some e
  split at e
  · rename_i d
    obtain ⟨l, el, rfl⟩ := Option.map_eq_some_iff.mp e
    cases d <;> first | (cases el; done) | skip
    · cases el
      refine .inl ⟨Z, ρ, fp, _, S, eo, fun Z1 H1 vs r1 a1 => ?_⟩
      obtain ⟨v, rfl, q1⟩ := one_of r1
      cases q1 with
      | lst z h t => exact ⟨_, _, rfl, .of h, k Z1 H1 _ (iter_e z h t) a1⟩
    · cases el
      refine .inr ⟨Z, ρ, fp, _, S, eo, fun Z1 H1 vs r1 a1 => ?_⟩
      obtain ⟨v, rfl, q1⟩ := one_of r1
      cases q1 with
      | tup h t => exact ⟨_, _, rfl, .of h, k Z1 H1 _ (iter_eT h t) a1⟩
  · cases e
theorem i_zip (hg : Gl X "zip") (hm : X.mg "zip" = none) (ha : DA X [e, e2] fd) (hs : starEach [e, e2] X.env = (false, eval e X.env) :: starEach [e2] X.env := by rfl) (hpl : (backTo pos (starEach [e2] X.env)).any (·.1) = false := by rfl) :
    DI X (.Tuple elts kk tpos) (.Call (.Name "zip" p) [e, e2] [] pos) (iZipD fd) := PI.imp (RZ.pi_zipA hg hm ha hs hpl) fun σ H R q => by
  obtain ⟨Z, ρ, fp, ds, S, e, k⟩ := q
  obtain ⟨os, eo, e⟩ := bind_some e
  split at e
  · cases e
    refine ⟨Z, ρ, fp, _, S, eo, fun Z1 H1 vs r1 a1 => ?_⟩
    obtain ⟨v, u, rfl, q1, q2⟩ := two_of r1
    cases q1 with
    | lst z h t => cases q2 with
      | lst z2 h2 t2 => exact ⟨_, _, _, _, rfl, .inl ⟨.of h, .of h2, k Z1 H1 _ (iter_z z h t z2 h2 t2) a1⟩⟩
  · cases e
    refine ⟨Z, ρ, fp, _, S, eo, fun Z1 H1 vs r1 a1 => ?_⟩
    obtain ⟨v, u, rfl, q1, q2⟩ := two_of r1
    cases q1 with
    | tup h t => cases q2 with
      | tup h2 t2 => exact ⟨_, _, _, _, rfl, .inr ⟨.of h, .of h2, k Z1 H1 _ (iter_zT h t h2 t2) a1⟩⟩
  · cases e
theorem i_range3 (hg : Gl X "range") (hm : X.mg "range" = none) (ha : PRA X [a, b, c] fl) (hs : starEach [a, b, c] X.env = (false, eval a X.env) :: starEach [b, c] X.env := by rfl) (hpl : (backTo pos (starEach [b, c] X.env)).any (·.1) = false := by rfl) :
    DI X tg (.Call (.Name "range" p) [a, b, c] [] pos) (DL.iRng3 fl) := PI.imp (pi_range3 hg hm ha hs hpl) fun σ H R q => by
  obtain ⟨Z, ρ, fp, ds, S, e, k⟩ := q
  obtain ⟨os, eo, e⟩ := bind_some e
  split at e
  · rename_i x y z
    obtain ⟨i, ei, e⟩ := bind_some e
    obtain ⟨j, ej, e⟩ := bind_some e
    obtain ⟨kk, ek, e⟩ := bind_some e
    obtain ⟨cc, rfl⟩ := ite_ds e
    obtain ⟨c0, cc⟩ := Bool.and_eq_true_iff.mp cc
    obtain ⟨c1, c2⟩ := Bool.and_eq_true_iff.mp cc
    have c0 : kk ≠ 0 := by simpa using c0
    have c1 := of_decide_eq_true c1
    refine ⟨Z, ρ, fp, _, S, eo, fun Z1 H1 vs r1 a1 => ?_⟩
    cases r1 with
    | cons r1 t => cases t with
      | cons r2 t => cases t with
        | cons r3 t =>
          cases t
          have nn : 0 ≤ Builtin.Range.rangeSize i j kk := by
            unfold Builtin.Range.rangeSize
            split
            · split
              · have := Int.ediv_nonneg (a := j - i - 1) (b := kk) (by omega) (by omega)
                omega
              · omega
            · split
              · have := Int.ediv_nonneg (a := i - j - 1) (b := -kk) (by omega) (by omega)
                omega
              · omega
          exact ⟨i, j, kk, (Builtin.Range.rangeSize i j kk).toNat, by rw [asI_rep r1 ei, asI_rep r2 ej, asI_rep r3 ek], ⟨c0, c1, c2, (Int.toNat_of_nonneg nn).symm⟩, k Z1 H1 _ iter_c a1⟩
  · cases e
end
end DL

namespace DL
open PySem PySem.Spec PyProof.Rows L2

/-! ## two clauses -/
def lc2L (ga : FT) (tt : FB) (fi1 : FD) (vs1 : List Nat) (ga1 : FT) (tt1 : FB) (te : F1) : List PyData → Env → Option (List PyData)
  | [], _ => some []
  | d :: ds, ρ => (ga d ρ).bind fun ρ1 => (tt ρ1).bind fun b => if b then (fi1 ρ1).bind fun ds1 => (lcL ga1 tt1 te ds1 (wipeE ρ1 vs1)).bind fun r1 => (lc2L ga tt fi1 vs1 ga1 tt1 te ds ρ).bind fun r => some (r1 ++ r) else lc2L ga tt fi1 vs1 ga1 tt1 te ds ρ
def oLc2 (n : Nat) (vs vs1 : List Nat) (fi : FD) (ga : FT) (tt : FB) (fi1 : FD) (ga1 : FT) (tt1 : FB) (te : F1) : F1 := fun ρ => if Nat.beq ρ.length n then (fi ρ).bind fun ds => (lc2L ga tt fi1 vs1 ga1 tt1 te ds (wipeE ρ vs)).bind fun l => if short l then some (.lst l) else none else none
section
variable {X : Cx} {K : PySem.W.Frag} {pos : Pos} {fi fi1 : FD} {ga ga1 : FT} {tt tt1 : FB} {te : F1} {n : Nat} {vs vs1 : List Nat}
theorem wipeE_len (ρ : Env) : ∀ vs : List Nat, (wipeE ρ vs).length = ρ.length
  | [] => rfl
  | v :: vs => by unfold wipeE; rw [List.length_set, wipeE_len ρ vs]
theorem runLc2 {σ : L2.St} {H : Hp} {Q : VK} (h : tP K (oLc2 n vs vs1 fi ga tt fi1 ga1 tt1 te) σ H Q) : tLc2 (tI K fi) (tG K (offs n vs) ga) (tT K tt) (tI K fi1) (tG K (offs n vs1) ga1) (tT K tt1) (tP K te) vs vs1 σ H Q := by
  obtain ⟨Z, ρ, fp, o, S, e, k⟩ := h
  have e : (if Nat.beq ρ.length n = true then (fi ρ).bind fun ds => (lc2L ga tt fi1 vs1 ga1 tt1 te ds (wipeE ρ vs)).bind fun l => if short l = true then some (.lst l) else none else none) = some o := e
  split at e
  · rename_i hn
    have hn : ρ.length = n := Nat.eq_of_beq_eq_true hn
    obtain ⟨ds, ed, e⟩ := bind_some e
    obtain ⟨l, el, e⟩ := bind_some e
    obtain ⟨hs, rfl⟩ := ite_ob e
    have hs := short_ok hs
    refine ⟨Z, ρ, fp, ds, S, ed, fun Z1 H1 J it a1 D nD => ?_⟩
    have S1 := S.still a1
    have za1 := S1.za
    have nzD : ¬ Z1 D := fun z => by
      obtain ⟨o, q⟩ := za1 D z
      rw [nD] at q; cases q
    -- what holds of the list that grows
    let Gr : Hp → Zs → List V → List PyData → Prop := fun H2 Z2 av ad => H2 D = some (.lst av) ∧ DpZs K Z2 H2 av ad ∧ ¬ Z2 D ∧ Fr H1 [] Z1 H2 [D] Z2
    have ownD : ∀ {Z : Zs} {H : Hp} {av : List V}, H D = some (.lst av) → ¬ Z D → Own Z H [D] := fun q z => ⟨by simp, fun a m => by rw [List.mem_singleton.mp m]; exact z, fun a m => by rw [List.mem_singleton.mp m]; exact ⟨_, q, trivial⟩⟩
    have step : ∀ {H2 : Hp} {Z2 : Zs} {av : List V} {ad : List PyData} {Z4 : Zs} {H4 : Hp}, Gr H2 Z2 av ad → Fr H2 [] Z2 H4 [] Z4 → Gr H4 Z4 av ad := fun {H2 Z2 av ad Z4 H4} ⟨hD, dv, nz2, a2⟩ a4 => by
      refine ⟨a4.same _ _ hD (by simp), dv.still a4, fun z => ?_, a2.trans (tail_fr a4)⟩
      rcases a4.znew D _ hD z with z | z
      · exact nz2 z
      · cases z
    refine ⟨fun i m H2 => ∃ Z2 av ad rest, m = ds.length - i ∧ i ≤ ds.length ∧ Gr H2 Z2 av ad ∧ lc2L ga tt fi1 vs1 ga1 tt1 te (ds.drop i) (wipeE ρ vs) = some rest ∧ ad ++ rest = l,
      ⟨_, Z1, [], [], l, rfl, Nat.zero_le _, ⟨upd_same, .nil, nzD, upd_fr nD Z1 (fun _ z => z) (fun _ z => .inl z) (fun b m => by simpa using m)⟩, el, rfl⟩, ?_⟩
    rintro i m H2 ⟨Z2, av, ad, rest, rfl, hi, gr, e2, el2⟩
    have a2 := gr.2.2.2
    have a2' : Fr H1 [] Z1 H2 [] Z2 := a2.less fun _ m => (nomatch m)
    have S2 := S1.still a2'
    obtain ⟨go, stop⟩ := it i Z2 H2 ⟨a2.zup, fun b u z e => a2.same b u e (by simp), fun b xs e => a2.same b _ e (by simp)⟩ S2.za
    by_cases hlt : i < ds.length
    · obtain ⟨g1, g2⟩ := go ds[i] (List.getElem?_eq_getElem hlt)
      rw [List.drop_eq_getElem_cons hlt] at e2
      obtain ⟨ρ3, e3, e2⟩ := bind_some (show ((ga ds[i] (wipeE ρ vs)).bind fun ρ1 => (tt ρ1).bind fun b => if b = true then (fi1 ρ1).bind fun ds1 => (lcL ga1 tt1 te ds1 (wipeE ρ1 vs1)).bind fun r1 => (lc2L ga tt fi1 vs1 ga1 tt1 te (ds.drop (i + 1)) (wipeE ρ vs)).bind fun r => some (r1 ++ r) else lc2L ga tt fi1 vs1 ga1 tt1 te (ds.drop (i + 1)) (wipeE ρ vs)) = some rest from e2)
      obtain ⟨b, eb, e2⟩ := bind_some e2
      refine .inr ⟨g1, fun H' => ∃ Z2 av ad rest, i + 1 ≤ ds.length ∧ Gr H' Z2 av ad ∧ lc2L ga tt fi1 vs1 ga1 tt1 te (ds.drop (i + 1)) (wipeE ρ vs) = some rest ∧ ad ++ rest = l, fun H' ⟨Z2, av, ad, rest, q⟩ => ⟨_, by omega, Z2, av, ad, rest, rfl, q⟩, fun x H3 y => ?_⟩
      obtain ⟨Z3, dx, a3⟩ := g2 x H3 y
      have S3 := S2.still a3
      obtain ⟨fpw, Sw, sw⟩ := S3.wipe vs
      refine ⟨Z3, _, fpw, ds[i], ρ3, Sw, dx, e3, fun σ4 fp4 S4 s4 k4 => ⟨wipe_back (by rw [S.er.len]; exact hn) k4, Z3, ρ3, fp4, b, S4, eb, fun Z5 H5 a5 => ?_⟩⟩
      have a35 := a3.trans a5
      cases b with
      | false =>
        rw [if_neg Bool.false_ne_true] at e2
        exact L2.iteF ⟨Z5, av, ad, rest, hlt, step gr a35, e2, el2⟩
      | true =>
        rw [if_pos rfl] at e2
        refine L2.iteT ?_
        obtain ⟨ds1, ed1, e2⟩ := bind_some e2
        obtain ⟨r1, er1, e2⟩ := bind_some e2
        obtain ⟨r2, er2, e2⟩ := bind_some e2
        cases e2
        have len4 : σ4.length = n := by
          have q := k4.len
          rw [wipe_length, S.er.len, hn] at q
          exact q
        have S5 := S4.still a5
        refine ⟨Z5, ρ3, fp4, ds1, S5, ed1, fun Z6 H6 J1 it1 a6 => ?_⟩
        have S6 := S5.still a6
        have gr6 := step gr (a35.trans a6)
        refine ⟨fun j m H7 => ∃ Z7 av ad rest, m = ds1.length - j ∧ j ≤ ds1.length ∧ Gr H7 Z7 av ad ∧ Fr H6 [D] Z6 H7 [D] Z7 ∧ lcL ga1 tt1 te (ds1.drop j) (wipeE ρ3 vs1) = some rest ∧ ad ++ (rest ++ r2) = l, ⟨_, Z6, av, ad, r1, rfl, Nat.zero_le _, gr6, .refl, er1, el2⟩, ?_⟩
        rintro j m H7 ⟨Z7, av, ad, rest, rfl, hj, gr7, a7, e7, el7⟩
        have ow6 : Own Z6 H6 [D] := ownD gr6.1 gr6.2.2.1
        have dj : ∀ b ∈ fp4, b ∉ [D] := fun b mb md => by
          obtain rfl : b = D := by simpa using md
          obtain ⟨o, eo, _⟩ := S1.own.al b (sw b (s4 b mb))
          rw [nD] at eo; cases eo
        have ow67 : Own Z6 H6 (fp4 ++ [D]) := ⟨List.nodup_append.mpr ⟨S6.own.nd, by simp, fun x m y m' q => dj x m (q ▸ m')⟩, fun x m => (List.mem_append.mp m).elim (S6.own.nz x) (ow6.nz x), fun x m => (List.mem_append.mp m).elim (S6.own.al x) (ow6.al x)⟩
        have S7 : Stt K Z7 H7 σ4 ρ3 fp4 := ⟨S6.er.keep a7 ow6.nt dj ow6.nzf, (ow67.aside a7 (ownD gr7.1 gr7.2.2.1)).left, a7.zal S6.za⟩
        obtain ⟨go1, stop1⟩ := it1 j Z7 H7 (a7.kp ow6) S7.za
        by_cases hlt1 : j < ds1.length
        · obtain ⟨g3, g4⟩ := go1 ds1[j] (List.getElem?_eq_getElem hlt1)
          rw [List.drop_eq_getElem_cons hlt1] at e7
          obtain ⟨ρ5, e5, e7⟩ := bind_some (show ((ga1 ds1[j] (wipeE ρ3 vs1)).bind fun ρ1 => (tt1 ρ1).bind fun b => if b = true then (te ρ1).bind fun o => (fz o).bind fun x => (lcL ga1 tt1 te (ds1.drop (j + 1)) (wipeE ρ3 vs1)).bind fun r => some (x :: r) else lcL ga1 tt1 te (ds1.drop (j + 1)) (wipeE ρ3 vs1)) = some rest from e7)
          obtain ⟨b, eb, e7⟩ := bind_some e7
          refine .inr ⟨g3, fun H' => ∃ Z7 av ad rest, j + 1 ≤ ds1.length ∧ Gr H' Z7 av ad ∧ Fr H6 [D] Z6 H' [D] Z7 ∧ lcL ga1 tt1 te (ds1.drop (j + 1)) (wipeE ρ3 vs1) = some rest ∧ ad ++ (rest ++ r2) = l, fun H' ⟨Z7, av, ad, rest, q⟩ => ⟨_, by omega, Z7, av, ad, rest, rfl, q⟩, fun x H8 y => ?_⟩
          obtain ⟨Z8, dx8, a8⟩ := g4 x H8 y
          have S8 := S7.still a8
          obtain ⟨fpw8, Sw8, _⟩ := S8.wipe vs1
          refine ⟨Z8, _, fpw8, ds1[j], ρ5, Sw8, dx8, e5, fun σ9 fp9 S9 s9 k9 => ⟨wipe_back len4 k9, Z8, ρ5, fp9, b, S9, eb, fun Z10 H10 a10 => ?_⟩⟩
          have a8x := a8.trans a10
          have tr : ∀ {Z : Zs} {H : Hp}, Fr H7 [] Z7 H [] Z → Fr H6 [D] Z6 H [D] Z := fun q => a7.trans (tail_fr q)
          cases b with
          | false =>
            rw [if_neg Bool.false_ne_true] at e7
            exact L2.iteF ⟨Z10, av, ad, rest, hlt1, step gr7 a8x, tr a8x, e7, el7⟩
          | true =>
            rw [if_pos rfl] at e7
            refine L2.iteT ?_
            obtain ⟨o6, e6, e7⟩ := bind_some e7
            obtain ⟨x6, ex6, e7⟩ := bind_some e7
            obtain ⟨r6, er6, e7⟩ := bind_some e7
            cases e7
            refine ⟨Z10, ρ5, fp9, o6, S9.still a10, e6, fun Z11 H11 v6 g6 r6' o6' a11 => ?_⟩
            have a11' := a11.frz0 o6'
            obtain ⟨s1, s2, s3, s4'⟩ := step gr7 (a8x.trans a11')
            have dz := r6'.frz ex6
            have nt : ∀ xs, H11 D ≠ some (.tup xs) := fun xs q => by rw [s1] at q; cases q
            have u1 := Fr.upd1 (Z := fun b => Z11 b ∨ b ∈ g6) (o := .lst (av ++ [v6])) ⟨_, s1⟩ (show D ∈ [D] by simp)
            have sml : av.length < sizeLine := by
              have q1 := s2.length
              have q2 := congrArg List.length el7
              rw [List.length_append, List.length_append, List.length_cons] at q2
              omega
            refine ⟨av, s1, sml, _, av ++ [v6], ad ++ [x6], r6, hlt1, ⟨upd_same, (s2.upd s3 nt).append (.cons (dz.upd s3 nt) .nil), s3, s4'.trans u1⟩, (tr (a8x.trans a11')).trans u1, er6, by rw [← el7]; simp⟩
        · have hl : ds1.length ≤ j := Nat.le_of_not_lt hlt1
          rw [List.drop_eq_nil_of_le hl] at e7
          cases e7
          exact .inl ⟨stop1 hl, Z7, av, ad, r2, hlt, gr7, er2, by rw [← el7]; simp⟩
    · have hl : ds.length ≤ i := Nat.le_of_not_lt hlt
      rw [List.drop_eq_nil_of_le hl] at e2
      cases e2
      rw [List.append_nil] at el2
      subst el2
      obtain ⟨hD, dv, nz2, a2⟩ := gr
      exact .inl ⟨stop hl, k Z2 H2 (.ref D) [D] (.lst hD dv) (ownD hD nz2) ((a1.trans a2))⟩
  · cases e
theorem d_lc2 {elt tg iter tg1 iter1 : Expr} {ifs ifs1 : List Expr} {scope : Scope} (own : List (Str × Nat)) (vs1 : List Nat) {n : Nat} (hc : X.calm = true) (hN : X.N.Nodup) (hi : DI X tg iter fi) (ok : BlkOk X.N X.env.scope scope own) (hv : ∀ i ∈ vs1, i ∈ own.map (·.2))
    (hg : BlkAll X scope fun X => DG X (offs n (own.map (·.2))) tg ga) (ht : BlkAll X scope fun X => TDs X ifs tt) (hi1 : BlkAll X scope fun X => DI X tg1 iter1 fi1) (hg1 : BlkAll X scope fun X => DG X (offs n vs1) tg1 ga1) (ht1 : BlkAll X scope fun X => TDs X ifs1 tt1) (he : BlkAll X scope fun X => DP X elt te)
    (hs : ∀ x, foldedSetIterable iter X.env x = pure x := by intro _; rfl) (hs1 : ∀ env x, foldedSetIterable iter1 env x = pure x := by intro _ _; rfl) :
    DP X (.ListComp elt [⟨tg, iter, ifs, 0⟩, ⟨tg1, iter1, ifs1, 0⟩] scope pos) (oLc2 n (own.map (·.2)) vs1 fi ga tt fi1 ga1 tt1 te) := PE.imp (pe_lc2 hc hN hi ok hv hg ht hi1 hg1 ht1 he hs hs1) fun _ _ _ h => runLc2 h
theorem s_setLc2 (i : Nat) {B : List Nat} {y : Str} {py spos : Pos} {elt tg iter tg1 iter1 : Expr} {ifs ifs1 : List Expr} {scope : Scope} (own : List (Str × Nat)) (vs1 : List Nat) {n : Nat} (hc : X.calm = true) (hN : X.N.Nodup) (hi : DI X tg iter fi) (ok : BlkOk X.N X.env.scope scope own) (hv : ∀ i ∈ vs1, i ∈ own.map (·.2))
    (hg : BlkAll X scope fun X => DG X (offs n (own.map (·.2))) tg ga) (ht : BlkAll X scope fun X => TDs X ifs tt) (hi1 : BlkAll X scope fun X => DI X tg1 iter1 fi1) (hg1 : BlkAll X scope fun X => DG X (offs n vs1) tg1 ga1) (ht1 : BlkAll X scope fun X => TDs X ifs1 tt1) (he : BlkAll X scope fun X => DP X elt te)
    (hsw : swapsWith (.ListComp elt [⟨tg, iter, ifs, 0⟩, ⟨tg1, iter1, ifs1, 0⟩] scope pos) (some (.Name y py)) spos.line X.env = pure true) (hy : X.N[i]? = some y := by rfl) (hyl : X.env.scope.names.lookup y = some .local := by rfl) (hB : i ∉ B := by decide)
    (hs : ∀ x, foldedSetIterable iter X.env x = pure x := by intro _; rfl) (hs1 : ∀ env x, foldedSetIterable iter1 env x = pure x := by intro _ _; rfl) :
    DS X B (.Assign [.Name y py] (.ListComp elt [⟨tg, iter, ifs, 0⟩, ⟨tg1, iter1, ifs1, 0⟩] scope pos) spos) (fSet i (oLc2 n (own.map (·.2)) vs1 fi ga tt fi1 ga1 tt1 te)) := PS.imp (ps_setLc2 hc hN hy hyl hsw hi ok hv hg ht hi1 hg1 ht1 he hs hs1) fun D σ H h => runSet (fun _ _ _ h => runLc2 h) hB h
end

/-! ## list(range(..)), tuple(range(..)) -/
theorem rgV_rep {K : PySem.W.Frag} {Z : Zs} {H : Hp} (a b : Int) : DpZs K Z H (rgV a b) (rangeD a (b - a).toNat) := by
  unfold rgV
  generalize (b - a).toNat = n
  have all : ∀ (n : Nat) (a : Int) (m : Nat), DpZs K Z H ((List.range' m n).map fun i => V.int (a + (i : Nat))) (rangeD (a + (m : Nat)) n) := by
    intro n
    induction n with
    | zero => intro a m; exact .nil
    | succ n ih =>
      intro a m
      rw [List.range'_succ, List.map_cons]
      have q := ih a (m + 1)
      rw [show a + ((m + 1 : Nat) : Int) = a + (m : Int) + 1 by omega] at q
      exact .cons (.int _) q
  have q := all n a 0
  rw [List.range_eq_range']
  simpa using q
section
variable {X : Cx} {a b : Expr} {fa fb : F1} {p p2 pos pos2 : Pos}
def rg1 (f : F1) : Env → Option (Int × Int) := fun ρ => (f ρ).bind fun x => (asI x).map fun i => (0, i)
def rg2 (f g : F1) : Env → Option (Int × Int) := fun ρ => (f ρ).bind fun x => (g ρ).bind fun y => (asI x).bind fun i => (asI y).map fun j => (i, j)
def rgOk (i j : Int) : Bool := sm62 i && (sm62 j && Nat.ble (j - i).toNat 16777216)
theorem rgOk_ok {i j : Int} (h : rgOk i j = true) : RgOk i j := by
  obtain ⟨h1, h⟩ := Bool.and_eq_true_iff.mp h
  obtain ⟨h2, h3⟩ := Bool.and_eq_true_iff.mp h
  obtain ⟨a1, a2⟩ := sm62_ok h1
  obtain ⟨a3, a4⟩ := sm62_ok h2
  exact ⟨a1, a2, a3, a4, Nat.le_of_ble_eq_true h3⟩
def dLRg (r : Env → Option (Int × Int)) : F1 := fun ρ => (r ρ).bind fun q => if rgOk q.1 q.2 then some (.lst (rangeD q.1 (q.2 - q.1).toNat)) else none
def dTRg (r : Env → Option (Int × Int)) : F1 := fun ρ => (r ρ).bind fun q => if rgOk q.1 q.2 then some (.fr (.tuple (rangeD q.1 (q.2 - q.1).toNat))) else none
def tRg (K : PySem.W.Frag) (r : Env → Option (Int × Int)) : L2.St → Hp → (Int → Int → Hp → Prop) → Prop := fun σ H Q => ∃ Z ρ fp i j, Stt K Z H σ ρ fp ∧ r ρ = some (i, j) ∧ ∀ Z' H', Fr H [] Z H' [] Z' → Q i j H'
abbrev RG (X : Cx) (e : Expr) (r : Env → Option (Int × Int)) : Prop := PRg X e (tRg X.K r)
theorem rg_1 (hg : Gl X "range") (hm : X.mg "range" = none) (ha : PR X a fa) (na : starEach [a] X.env = (false, eval a X.env) :: starEach [] X.env := by rfl) : RG X (.Call (.Name "range" p) [a] [] pos) (rg1 fa) := fun pins s σ H Q I h => by
  obtain ⟨Z, ρ, fp, i, j, S, e, k⟩ := h
  obtain ⟨x, ex, e⟩ := bind_some e
  obtain ⟨i', ei, e⟩ := Option.map_eq_some_iff.mp e
  cases e
  exact prg_1 hg hm ha na pins s σ H Q I ⟨Z, ρ, fp, x, S, ex, fun Z1 H1 v g r a1 => ⟨j, asI_rep r ei, k Z1 H1 a1⟩⟩
theorem rg_2 (hg : Gl X "range") (hm : X.mg "range" = none) (ha : PR X a fa) (hb : PR X b fb) (na : starEach [a, b] X.env = (false, eval a X.env) :: starEach [b] X.env := by rfl) (nb : starEach [b] X.env = (false, eval b X.env) :: starEach [] X.env := by rfl) (hp : (backTo pos (starEach [b] X.env)).any (·.1) = false := by rfl) :
    RG X (.Call (.Name "range" p) [a, b] [] pos) (rg2 fa fb) := fun pins s σ H Q I h => by
  obtain ⟨Z, ρ, fp, i, j, S, e, k⟩ := h
  obtain ⟨x, ex, e⟩ := bind_some e
  obtain ⟨y, ey, e⟩ := bind_some e
  obtain ⟨i', ei, e⟩ := bind_some e
  obtain ⟨j', ej, e⟩ := Option.map_eq_some_iff.mp e
  cases e
  exact prg_2 hg hm ha hb na nb hp pins s σ H Q I ⟨Z, ρ, fp, x, S, ex, fun Z1 H1 v g r a1 => ⟨Z1, ρ, fp, y, S.still a1, ey, fun Z2 H2 v2 g2 r2 a2 => ⟨i, j, asI_rep r ei, asI_rep r2 ej, k Z2 H2 (a1.trans a2)⟩⟩⟩
variable {e : Expr} {r : Env → Option (Int × Int)}
theorem d_listRg (hc : X.calm = true) (hg : Gl X "list") (hm : X.mg "list" = none) (he : RG X e r) (na : starEach [e] X.env = (false, eval e X.env) :: starEach [] X.env := by rfl) : DP X (.Call (.Name "list" p) [e] [] pos) (dLRg r) := PE.imp (pe_listRg hc hg hm he na) fun σ H Q h => by
  obtain ⟨Z, ρ, fp, o, S, e, k⟩ := h
  obtain ⟨⟨i, j⟩, ei, e⟩ := bind_some e
  obtain ⟨c, rfl⟩ := ite_ob e
  exact ⟨Z, ρ, fp, i, j, S, ei, fun Z1 H1 a1 => ⟨rgOk_ok c, Rst.lst (fun Z3 H3 v3 g3 r3 o3 a3 => k Z3 H3 v3 g3 r3 o3 (a1.trans a3)) (rgV_rep i j) (a1.zal S.za)⟩⟩
theorem d_tupRg (hc : X.calm = true) (hg : Gl X "tuple") (hm : X.mg "tuple" = none) (he : RG X e r) (na : starEach [e] X.env = (false, eval e X.env) :: starEach [] X.env := by rfl) : DP X (.Call (.Name "tuple" p) [e] [] pos) (dTRg r) := PE.imp (pe_tupRg hc hg hm he na) fun σ H Q h => by
  obtain ⟨Z, ρ, fp, o, S, e, k⟩ := h
  obtain ⟨⟨i, j⟩, ei, e⟩ := bind_some e
  obtain ⟨c, rfl⟩ := ite_ob e
  exact ⟨Z, ρ, fp, i, j, S, ei, fun Z1 H1 a1 => ⟨rgOk_ok c, Rst.tup (fun Z3 H3 v3 g3 r3 o3 a3 => k Z3 H3 v3 g3 r3 o3 (a1.trans a3)) (rgV_rep i j)⟩⟩
end
end DL

namespace DL
open PySem PySem.Spec PyProof.Rows L2

/-! ## expressions that write -/
abbrev FE := Env → Option (Ob × Env)
def tE (K : PySem.W.Frag) (f : FE) : TE := fun σ H Q => ∃ Z ρ fp o ρ', Stt K Z H σ ρ fp ∧ f ρ = some (o, ρ') ∧
  ∀ Z' H' v g fp', RepO K Z' H' v o g → Stt K Z' H' σ ρ' fp' → Own Z' H' (g ++ fp') → Fr H fp Z H' (g ++ fp') Z' → Q v H'
abbrev DE (X : Cx) (e : Expr) (f : FE) : Prop := PE X e (tE X.K f)
abbrev FDE := Env → Option (List PyData × Env)
def tEA (K : PySem.W.Frag) (f : FDE) : TA := fun σ H Q => ∃ Z ρ fp ds ρ', Stt K Z H σ ρ fp ∧ f ρ = some (ds, ρ') ∧
  ∀ Z' H' vs fp', DpZs K Z' H' vs ds → Stt K Z' H' σ ρ' fp' → Fr H fp Z H' fp' Z' → Q vs H'
abbrev EA (X : Cx) (es : List Expr) (f : FDE) : Prop := PA X es (tEA X.K f)
abbrev FBE := Env → Option (Bool × Env)
def tTE (K : PySem.W.Frag) (f : FBE) : TT := fun σ H Q => ∃ Z ρ fp b ρ', Stt K Z H σ ρ fp ∧ f ρ = some (b, ρ') ∧ ∀ Z' H' fp', Stt K Z' H' σ ρ' fp' → Fr H fp Z H' fp' Z' → Q b H'
abbrev ET (X : Cx) (e : Expr) (f : FBE) : Prop := PT X e (tTE X.K f)
abbrev EW (X : Cx) (e : Expr) (f : FBE) : Prop := PW X e (tTE X.K f)
section
variable {K : PySem.W.Frag} {Z Z1 : Zs} {H H1 : Hp} {σ : L2.St} {ρ ρ1 : Env} {fp fp1 g : List Addr} {v : V} {o : Ob} {d : PyData}
theorem Fr.frzW (a : Fr H fp Z H1 (g ++ fp1) Z1) (ow : Own Z1 H1 (g ++ fp1)) : Fr H fp Z H1 fp1 (fun b => Z1 b ∨ b ∈ g) where
  same := a.same
  zup := fun b z => .inl (a.zup b z)
  znew := fun b o e z => z.elim (a.znew b o e) fun m => .inr (a.new b o e (List.mem_append_left _ m))
  new := fun b o e m => a.new b o e (List.mem_append_right _ m)
  zal := fun q b z => z.elim (a.zal q b) fun m => let ⟨o, e, _⟩ := ow.al b (List.mem_append_left _ m); ⟨o, e⟩
theorem frzE (S1 : Stt K Z1 H1 σ ρ1 fp1) (r : RepO K Z1 H1 v o g) (ow : Own Z1 H1 (g ++ fp1)) (a : Fr H fp Z H1 (g ++ fp1) Z1) (h0 : Own Z H fp) (e : fz o = some d) :
    ∃ Z2, Stt K Z2 H1 σ ρ1 fp1 ∧ DpZ K Z2 H1 v d ∧ Fr H fp Z H1 fp1 Z2 := by
  refine ⟨fun b => Z1 b ∨ b ∈ g, ⟨S1.er.up fun _ z => .inl z, ⟨S1.own.nd, fun b m z => z.elim (S1.own.nz b m) fun z => ow.apart b z m, S1.own.al⟩, fun b z => z.elim (S1.za b) fun m => let ⟨o, q, _⟩ := ow.al b (List.mem_append_left _ m); ⟨o, q⟩⟩, r.frz e, a.frzW ow⟩
theorem Stt.owned (S : Stt K Z H σ ρ fp) : Own Z H fp := S.own
/-- a pure, separate result behind something that wrote -/
theorem Rst.behind {Q : VK} (S : Stt K Z H σ ρ fp) (S1 : Stt K Z1 H1 σ ρ1 fp1) (a : Fr H fp Z H1 fp1 Z1)
    (k : ∀ Z' H' v g fp', RepO K Z' H' v o g → Stt K Z' H' σ ρ1 fp' → Own Z' H' (g ++ fp') → Fr H fp Z H' (g ++ fp') Z' → Q v H') : Rst K Z1 H1 o Q := fun Z2 H2 v g r ow a2 => by
  obtain ⟨S2, ow2, fr⟩ := beside S1 ow a2
  exact k Z2 H2 v g fp1 r S2 ow2 (a.trans fr)
end
def eP (f : F1) : FE := fun ρ => (f ρ).bind fun o => some (o, ρ)
def eaNil : FDE := fun ρ => some ([], ρ)
def eaCons (f : FE) (r : FDE) : FDE := fun ρ => (f ρ).bind fun p => (fz p.1).bind fun d => (r p.2).bind fun q => some (d :: q.1, q.2)
def eO (g : List PyData → Option Ob) (r : FDE) : FE := fun ρ => (r ρ).bind fun p => (g p.1).bind fun o => some (o, p.2)
def e2O (g : Ob → Ob → Option Ob) (f f' : FE) : FE := fun ρ => (f ρ).bind fun p => (fz p.1).bind fun d => (f' p.2).bind fun q => (fz q.1).bind fun d' => (g (.fr d) (.fr d')).bind fun o => some (o, q.2)
def e1O (g : Ob → Option Ob) (f : FE) : FE := fun ρ => (f ρ).bind fun p => (fz p.1).bind fun d => (g (.fr d)).bind fun o => some (o, p.2)
def e1L (g : List Ob → Option Ob) (f : FE) : FE := fun ρ => (f ρ).bind fun p => (fz p.1).bind fun d => (g [.fr d]).bind fun o => some (o, p.2)
def mkTup (l : List PyData) : Option Ob := if short l then some (.fr (.tuple l)) else none
def mkLst (l : List PyData) : Option Ob := if short l then some (.lst l) else none
section
variable {X : Cx} {pos p : Pos} {a b c e : Expr} {es rest : List Expr} {f : F1} {fa fb : FE} {fl : FDE} {ta tb : FBE}
theorem e_p (h : DP X e f) : DE X e (eP f) := PE.imp h fun σ H Q h => by
  obtain ⟨Z, ρ, fp, o, ρ', S, e, k⟩ := h
  obtain ⟨x, ex, e⟩ := bind_some e
  cases e
  exact ⟨Z, ρ, fp, o, S, ex, fun Z1 H1 v1 g1 r1 o1 a1 => by
    obtain ⟨S1, ow, fr⟩ := beside S o1 a1
    exact k Z1 H1 v1 g1 fp r1 S1 ow fr⟩
theorem ea_nil : EA X [] eaNil := PA.imp pa_nil fun σ H Q h => by
  obtain ⟨Z, ρ, fp, ds, ρ', S, e, k⟩ := h
  cases e
  exact k Z H [] fp .nil S .refl
theorem ea_cons (ha : DE X e fa) (hr : EA X es fl) (hs : starEach (e :: es) X.env = (false, eval e X.env) :: starEach es X.env := by rfl) : EA X (e :: es) (eaCons fa fl) := PA.imp (pa_cons ha hr hs) fun σ H Q h => by
  obtain ⟨Z, ρ, fp, ds, ρ', S, e, k⟩ := h
  obtain ⟨⟨o1, ρ1⟩, e1, e⟩ := bind_some e
  obtain ⟨d1, ed, e⟩ := bind_some e
  obtain ⟨⟨ds2, ρ2⟩, e2, e⟩ := bind_some e
  cases e
  refine ⟨Z, ρ, fp, o1, ρ1, S, e1, fun Z1 H1 v1 g1 fp1 r1 S1 ow a1 => ?_⟩
  obtain ⟨Z2, S2, dz, a2⟩ := frzE S1 r1 ow a1 S.own ed
  exact ⟨Z2, ρ1, fp1, ds2, ρ2, S2, e2, fun Z3 H3 vs fp3 dv S3 a3 => k Z3 H3 (v1 :: vs) fp3 (.cons (dz.kp (a3.kp S2.own)) dv) S3 (a2.trans a3)⟩
theorem e_tup {x1} (h : EA X es fl) : DE X (.Tuple es x1 pos) (eO mkTup fl) := PE.imp (pe_tup h) fun σ H Q h => by
  obtain ⟨Z, ρ, fp, o, ρ', S, e, k⟩ := h
  obtain ⟨⟨ds, ρ1⟩, e1, e⟩ := bind_some e
  obtain ⟨o1, eo, e⟩ := bind_some e
  cases e
  obtain ⟨c, rfl⟩ := ite_ob eo
  exact ⟨Z, ρ, fp, ds, ρ1, S, e1, fun Z1 H1 vs fp1 dv S1 a1 => ⟨by rw [dv.length]; exact short_ok c, Rst.tup (Rst.behind S S1 a1 k) dv⟩⟩
theorem e_lst (h : EA X es fl) : DE X (.List es pos) (eO mkLst fl) := PE.imp (pe_lst h) fun σ H Q h => by
  obtain ⟨Z, ρ, fp, o, ρ', S, e, k⟩ := h
  obtain ⟨⟨ds, ρ1⟩, e1, e⟩ := bind_some e
  obtain ⟨o1, eo, e⟩ := bind_some e
  cases e
  obtain ⟨c, rfl⟩ := ite_ob eo
  exact ⟨Z, ρ, fp, ds, ρ1, S, e1, fun Z1 H1 vs fp1 dv S1 a1 => ⟨by rw [dv.length]; exact short_ok c, Rst.lst (Rst.behind S S1 a1 k) dv S1.za⟩⟩
theorem run2E {K : PySem.W.Frag} {r : R2} {g : Ob → Ob → Option Ob} (hg : Rd2 K r g) {σ : L2.St} {H : Hp} {Q : VK} (h : tE K (e2O g fa fb) σ H Q) : tOp r (tE K fa) (tE K fb) σ H Q := by
  obtain ⟨Z, ρ, fp, o, ρ', S, e, k⟩ := h
  obtain ⟨⟨o1, ρ1⟩, e1, e⟩ := bind_some e
  obtain ⟨d1, ed1, e⟩ := bind_some e
  obtain ⟨⟨o2, ρ2⟩, e2, e⟩ := bind_some e
  obtain ⟨d2, ed2, e⟩ := bind_some e
  obtain ⟨o3, eo, e⟩ := bind_some e
  cases e
  refine ⟨Z, ρ, fp, o1, ρ1, S, e1, fun Z1 H1 v1 g1 fp1 r1 S1 ow1 a1 => ?_⟩
  obtain ⟨Y1, T1, dz1, b1⟩ := frzE S1 r1 ow1 a1 S.own ed1
  refine ⟨Y1, ρ1, fp1, o2, _, T1, e2, fun Z2 H2 v2 g2 fp2 r2 S2 ow2 a2 => ?_⟩
  obtain ⟨Y2, T2, dz2, b2⟩ := frzE S2 r2 ow2 a2 T1.own ed2
  exact hg Y2 H2 v1 v2 _ _ [] [] o Q T2.za (.fr (dz1.kp (b2.kp T1.own))) (.fr dz2) eo (Rst.behind S T2 (b1.trans b2) k)
theorem e_op2 {op : Operator} {r : R2} {g : Ob → Ob → Option Ob} (ho : OpR X (binaryOp op) r) (hg : Rd2 X.K r g) (ha : DE X a fa) (hb : DE X b fb) : DE X (.BinOp a op b pos) (e2O g fa fb) := PE.imp (pe_op ho ha hb) fun _ _ _ h => run2E hg h
theorem e_cmp {op : CmpOp} {r : R2} {g : Ob → Ob → Option Ob} (ho : OpR X (compareOp op) r) (hg : Rd2 X.K r g) (ha : DE X a fa) (hb : DE X b fb) (hm : behindInMarks op b = false := by rfl) : DE X (.Compare a [op] [b] pos) (e2O g fa fb) := PE.imp (pe_cmpR ho ha hb hm) fun _ _ _ h => run2E hg h
theorem e_ix (ha : DE X a fa) (hb : DE X b fb) (hs : PlainIx b := by intro _ _; rfl) : DE X (.Subscript a b pos) (e2O ixO fa fb) := PE.imp (pe_ix ix_seq ha hb hs) fun _ _ _ h => run2E rd_ix h
theorem run1L {K : PySem.W.Frag} {r : List V → Hp → VK → Prop} {g : List Ob → Option Ob} (hg : RdL K r g) {σ : L2.St} {H : Hp} {Q : VK} (h : tE K (e1L g fa) σ H Q) : tCB r (fun σ H Q => tE K fa σ H fun v H' => Q [v] H') σ H Q := by
  obtain ⟨Z, ρ, fp, o, ρ', S, e, k⟩ := h
  obtain ⟨⟨o1, ρ1⟩, e1, e⟩ := bind_some e
  obtain ⟨d1, ed1, e⟩ := bind_some e
  obtain ⟨o3, eo, e⟩ := bind_some e
  cases e
  refine ⟨Z, ρ, fp, o1, ρ1, S, e1, fun Z1 H1 v1 g1 fp1 r1 S1 ow1 a1 => ?_⟩
  obtain ⟨Y1, T1, dz1, b1⟩ := frzE S1 r1 ow1 a1 S.own ed1
  exact hg Y1 H1 [v1] _ o Q T1.za (.cons (.fr dz1) .nil) eo (Rst.behind S T1 b1 k)
theorem pa_one {te : TE} (ha : PE X e te) (hs : starEach [e] X.env = (false, eval e X.env) :: starEach [] X.env) : PA X [e] (fun σ H Q => te σ H fun v H' => Q [v] H') := pa_cons ha pa_nil hs
theorem e_callB {id : String} {x : Str} {r : List V → Hp → VK → Prop} {g : List Ob → Option Ob} (hc : CallR X (.builtin id) r) (hgr : RdL X.K r g) (hg : Gl X x) (hm : X.mg x = none) (hv : bootBuiltins x = some (.builtin id)) (ha : DE X e fa)
    (hn : x ≠ "__name__" := by decide) (hdb : (x == ("__debug__" : Str)) = false := by decide) (he : starEach [e] X.env = (false, eval e X.env) :: starEach [] X.env := by rfl) (hpl : (backTo pos (starEach [] X.env)).any (·.1) = false := by rfl) : DE X (.Call (.Name x p) [e] [] pos) (e1L g fa) :=
  PE.imp (pe_callB hc hg hm hv (pa_one ha he) hn hdb he hpl) fun _ _ _ h => run1L hgr h
theorem e_callTy {T : String} {x : Str} {r : List V → Hp → VK → Prop} {g : List Ob → Option Ob} (hc : CallR X (.type T) r) (hgr : RdL X.K r g) (hg : Gl X x) (hm : X.mg x = none) (hv : bootBuiltins x = some (.type T)) (ha : DE X e fa)
    (hn : x ≠ "__name__" := by decide) (hdb : (x == ("__debug__" : Str)) = false := by decide) (he : starEach [e] X.env = (false, eval e X.env) :: starEach [] X.env := by rfl) (hpl : (backTo pos (starEach [] X.env)).any (·.1) = false := by rfl) : DE X (.Call (.Name x p) [e] [] pos) (e1L g fa) :=
  PE.imp (pe_callTy hc hg hm hv (pa_one ha he) hn hdb he hpl) fun _ _ _ h => run1L hgr h
/-! ### tests -/
def eBO (f : FE) : FBE := fun ρ => (f ρ).bind fun p => (asB p.1).bind fun b => some (b, p.2)
def ePB (f : FB) : FBE := fun ρ => (f ρ).bind fun b => some (b, ρ)
def eNot (f : FBE) : FBE := fun ρ => (f ρ).bind fun p => some (!p.1, p.2)
def eAnd (f g : FBE) : FBE := fun ρ => (f ρ).bind fun p => if p.1 then g p.2 else some (false, p.2)
def eOr (f g : FBE) : FBE := fun ρ => (f ρ).bind fun p => if p.1 then some (true, p.2) else g p.2
def eIf (c : FBE) (f g : FE) : FE := fun ρ => (c ρ).bind fun p => if p.1 then f p.2 else g p.2
def eAndV (f g : FE) : FE := fun ρ => (f ρ).bind fun p => (asB p.1).bind fun b => if b then g p.2 else some (.fr (.bool false), p.2)
def eOrV (f g : FE) : FE := fun ρ => (f ρ).bind fun p => (asB p.1).bind fun b => if b then some (.fr (.bool true), p.2) else g p.2
theorem asB_eq {o : Ob} {b : Bool} (h : asB o = some b) : o = .fr (.bool b) := by
  cases o with
  | fr d =>
    cases d with
    | bool j => cases h; rfl
    | _ => cases h
  | _ => cases h
theorem RepO.flatg {K : PySem.W.Frag} {Z : Zs} {H : Hp} {v : V} {d : PyData} {g : List Addr} (r : RepO K Z H v (.fr d) g) : g = [] := by
  cases r; rfl
theorem tTestE_of {K : PySem.W.Frag} {t : TE} {f : FE} {σ : L2.St} {H : Hp} {Q : Bool → Hp → Prop} (ht : ∀ Q : VK, tE K f σ H Q → t σ H Q) (h : tTE K (eBO f) σ H Q) : tTest t σ H Q := by
  obtain ⟨Z, ρ, fp, b, ρ', S, e, k⟩ := h
  obtain ⟨⟨o1, ρ1⟩, e1, e⟩ := bind_some e
  obtain ⟨b', eb, e⟩ := bind_some e
  cases e
  refine ht _ ⟨Z, ρ, fp, o1, ρ1, S, e1, fun Z1 H1 v1 g1 fp1 r1 S1 ow1 a1 => ⟨b, asB_rep r1 eb, k Z1 H1 fp1 S1 (a1.less fun x m => List.mem_append_right _ m)⟩⟩
theorem et_p {f : FB} (h : TD X e f) : ET X e (ePB f) := PT.imp h fun σ H Q h => by
  obtain ⟨Z, ρ, fp, b, ρ', S, e, k⟩ := h
  obtain ⟨b', eb, e⟩ := bind_some e
  cases e
  exact ⟨Z, ρ, fp, b, S, eb, fun Z1 H1 a1 => k Z1 H1 fp (S.still a1) (tail_fr a1)⟩
theorem et_cmp {op : CmpOp} {r : R2} {g : Ob → Ob → Option Ob} (ho : OpR X (compareOp op) r) (hg : Rd2 X.K r g) (ha : DE X a fa) (hb : DE X b fb) (hm : behindInMarks op b = false := by rfl) : ET X (.Compare a [op] [b] pos) (eBO (e2O g fa fb)) :=
  PT.imp (pt_cmpR ho ha hb hm) fun _ _ _ h => tTestE_of (fun _ q => run2E hg q) h
theorem et_val {f : FE} (h : DE X e f) (he : ∀ whole, isTrue e X.env whole = (do let v ← whole; standAt e.pos; holding [v] (truthy v)) := by intro _; rfl) : ET X e (eBO f) :=
  PT.imp (pt_val h he) fun _ _ _ h => tTestE_of (fun _ q => q) h
theorem et_not (h : ET X a ta) : ET X (.UnaryOp .Not a pos) (eNot ta) := PT.imp (pt_not h) fun σ H Q h => by
  obtain ⟨Z, ρ, fp, b, ρ', S, e, k⟩ := h
  obtain ⟨⟨b', ρ1⟩, eb, e⟩ := bind_some e
  cases e
  exact ⟨Z, ρ, fp, b', ρ1, S, eb, k⟩
theorem ew_and1 (h : ET X a ta) : EW X (.BoolOp .And [a] pos) ta := pw_and1 h
theorem ew_or1 (h : ET X a ta) : EW X (.BoolOp .Or [a] pos) ta := pw_or1 h
theorem ew_and (h : ET X a ta) (h2 : EW X (.BoolOp .And (b :: rest) pos) tb) : EW X (.BoolOp .And (a :: b :: rest) pos) (eAnd ta tb) := PW.imp (pw_and h h2) fun σ H Q h => by
  obtain ⟨Z, ρ, fp, o, ρ', S, e, k⟩ := h
  obtain ⟨⟨b, ρ1⟩, eb, e⟩ := bind_some e
  refine ⟨Z, ρ, fp, b, ρ1, S, eb, fun Z1 H1 fp1 S1 a1 => ?_⟩
  cases b with
  | true =>
    rw [if_pos rfl] at e ⊢
    exact ⟨Z1, ρ1, fp1, o, ρ', S1, e, fun Z2 H2 fp2 S2 a2 => k Z2 H2 fp2 S2 (a1.trans a2)⟩
  | false =>
    rw [if_neg Bool.false_ne_true] at e ⊢
    cases e
    exact k Z1 H1 fp1 S1 a1
theorem ew_or (h : ET X a ta) (h2 : EW X (.BoolOp .Or (b :: rest) pos) tb) : EW X (.BoolOp .Or (a :: b :: rest) pos) (eOr ta tb) := PW.imp (pw_or h h2) fun σ H Q h => by
  obtain ⟨Z, ρ, fp, o, ρ', S, e, k⟩ := h
  obtain ⟨⟨b, ρ1⟩, eb, e⟩ := bind_some e
  refine ⟨Z, ρ, fp, b, ρ1, S, eb, fun Z1 H1 fp1 S1 a1 => ?_⟩
  cases b with
  | true =>
    rw [if_pos rfl] at e ⊢
    cases e
    exact k Z1 H1 fp1 S1 a1
  | false =>
    rw [if_neg Bool.false_ne_true] at e ⊢
    exact ⟨Z1, ρ1, fp1, o, ρ', S1, e, fun Z2 H2 fp2 S2 a2 => k Z2 H2 fp2 S2 (a1.trans a2)⟩
theorem et_w (h : EW X e ta) : ET X e ta := h.pt
theorem e_if (hc : ET X c ta) (ha : DE X a fa) (hb : DE X b fb) : DE X (.IfExp c a b pos) (eIf ta fa fb) := PE.imp (pe_ifExp hc ha hb) fun σ H Q h => by
  obtain ⟨Z, ρ, fp, o, ρ', S, e, k⟩ := h
  obtain ⟨⟨b, ρ1⟩, eb, e⟩ := bind_some e
  refine ⟨Z, ρ, fp, b, ρ1, S, eb, fun Z1 H1 fp1 S1 a1 => ?_⟩
  cases b with
  | true =>
    rw [if_pos rfl] at e ⊢
    exact ⟨Z1, ρ1, fp1, o, ρ', S1, e, fun Z2 H2 v g fp2 r S2 ow a2 => k Z2 H2 v g fp2 r S2 ow (a1.trans a2)⟩
  | false =>
    rw [if_neg Bool.false_ne_true] at e ⊢
    exact ⟨Z1, ρ1, fp1, o, ρ', S1, e, fun Z2 H2 v g fp2 r S2 ow a2 => k Z2 H2 v g fp2 r S2 ow (a1.trans a2)⟩
theorem e_one {op} (h : DE X a fa) : DE X (.BoolOp op [a] pos) fa := pe_one h
theorem e_and (h : DE X a fa) (h2 : DE X (.BoolOp .And (b :: rest) pos) fb) : DE X (.BoolOp .And (a :: b :: rest) pos) (eAndV fa fb) := PE.imp (pe_and h h2) fun σ H Q h => by
  obtain ⟨Z, ρ, fp, o, ρ', S, e, k⟩ := h
  obtain ⟨⟨x, ρ1⟩, ex, e⟩ := bind_some e
  obtain ⟨b, eb, e⟩ := bind_some e
  refine ⟨Z, ρ, fp, x, ρ1, S, ex, fun Z1 H1 v1 g1 fp1 r1 S1 ow1 a1 => ⟨b, asB_rep r1 eb, ?_⟩⟩
  have a1' : Fr H fp Z H1 fp1 Z1 := a1.less fun x m => List.mem_append_right _ m
  cases b with
  | true =>
    rw [if_pos rfl] at e ⊢
    exact ⟨Z1, ρ1, fp1, o, ρ', S1, e, fun Z2 H2 v g fp2 r S2 ow a2 => k Z2 H2 v g fp2 r S2 ow (a1'.trans a2)⟩
  | false =>
    rw [if_neg Bool.false_ne_true] at e ⊢
    cases e
    exact k Z1 H1 _ [] fp1 (.fr (.bl _)) S1 S1.own a1'
theorem e_or (h : DE X a fa) (h2 : DE X (.BoolOp .Or (b :: rest) pos) fb) : DE X (.BoolOp .Or (a :: b :: rest) pos) (eOrV fa fb) := PE.imp (pe_or h h2) fun σ H Q h => by
  obtain ⟨Z, ρ, fp, o, ρ', S, e, k⟩ := h
  obtain ⟨⟨x, ρ1⟩, ex, e⟩ := bind_some e
  obtain ⟨b, eb, e⟩ := bind_some e
  refine ⟨Z, ρ, fp, x, ρ1, S, ex, fun Z1 H1 v1 g1 fp1 r1 S1 ow1 a1 => ⟨b, asB_rep r1 eb, ?_⟩⟩
  have a1' : Fr H fp Z H1 fp1 Z1 := a1.less fun x m => List.mem_append_right _ m
  cases b with
  | true =>
    rw [if_pos rfl] at e ⊢
    cases e
    exact k Z1 H1 _ [] fp1 (.fr (.bl _)) S1 S1.own a1'
  | false =>
    rw [if_neg Bool.false_ne_true] at e ⊢
    exact ⟨Z1, ρ1, fp1, o, ρ', S1, e, fun Z2 H2 v g fp2 r S2 ow a2 => k Z2 H2 v g fp2 r S2 ow (a1'.trans a2)⟩

/-! ### statements -/
variable {B : List Nat}
def fSetE (i : Nat) (f : FE) : FS := fun ρ => (f ρ).bind fun p => some (.nx (p.2.set i (some p.1)))
def fRetE (f : FE) : FS := fun ρ => (f ρ).bind fun p => some (.rt p.1 p.2)
def fIfE (c : FBE) (f g : FS) : FS := fun ρ => (c ρ).bind fun p => if p.1 then f p.2 else g p.2
def fTgE (f : FE) (ga : FT) : FS := fun ρ => (f ρ).bind fun p => (fz p.1).bind fun d => (ga d p.2).bind fun ρ' => some (.nx ρ')
theorem s_setE (i : Nat) {x : Str} {pos' : Pos} (hN : X.N.Nodup) (he : DE X e fa) (hi : X.N[i]? = some x := by rfl) (hx : Loc X.env.scope x := by first | exact .inl rfl | exact .inr rfl) (hB : i ∉ B := by decide) (hs : swapsWith e (some (.Name x pos')) pos.line X.env = pure false := by rfl) (hf : X.fn x = true ∨ X.env.scope.names.lookup x = some .local := by first | exact .inl rfl | exact .inr rfl) :
    DS X B (.Assign [.Name x pos'] e pos) (fSetE i fa) := PS.imp (ps_set hN hi hx he hs hf) fun D σ H h => by
  obtain ⟨Z, ρ, fp, r, S, e, k⟩ := h
  obtain ⟨⟨o, ρ1⟩, eo, e⟩ := bind_some e
  cases e
  refine ⟨Z, ρ, fp, o, ρ1, S, eo, fun Z1 H1 v1 g1 fp1 r1 S1 ow a1 => ?_⟩
  obtain ⟨fp', S2, hs⟩ := S1.set r1 ow i
  exact k Z1 H1 _ fp' S2 (a1.less hs) (kpB_set hB)
theorem s_retE (h : DE X e fa) : DS X B (.Return (some e) pos) (fRetE fa) := PS.imp (ps_ret h) fun D σ H h => by
  obtain ⟨Z, ρ, fp, r, S, e, k⟩ := h
  obtain ⟨⟨o, ρ1⟩, eo, e⟩ := bind_some e
  cases e
  exact ⟨Z, ρ, fp, o, ρ1, S, eo, fun Z1 H1 v1 g1 fp1 r1 S1 ow a1 => k Z1 H1 σ fp1 v1 g1 S1 r1 ow a1 .rfl⟩
theorem s_ifE {sa sb : List Stmt} {f g : FS} (hc : ET X c ta) (ha : DSs X B sa f) (hb : DSs X B sb g) : DS X B (.If c sa sb pos) (fIfE ta f g) := PS.imp (ps_if hc ha hb) fun D σ H h => by
  obtain ⟨Z, ρ, fp, r, S, e, k⟩ := h
  obtain ⟨⟨b, ρ1⟩, eb, e⟩ := bind_some e
  refine ⟨Z, ρ, fp, b, ρ1, S, eb, fun Z1 H1 fp1 S1 a1 => ?_⟩
  cases b with
  | true =>
    rw [if_pos rfl] at e ⊢
    exact ⟨Z1, ρ1, fp1, r, S1, e, k.on a1 .rfl⟩
  | false =>
    rw [if_neg Bool.false_ne_true] at e ⊢
    exact ⟨Z1, ρ1, fp1, r, S1, e, k.on a1 .rfl⟩
/-- tg = e, of frozen data -/
theorem s_tgE {tg : Expr} {ga : FT} (he : DE X e fa) (hg : DG X B tg ga) (hs : swapsWithSole [tg] e pos.line X.env = pure false := by rfl) (hw : swappedStores [tg] e X.env = pure none := by rfl)
    (h1 : (assignEach [tg] X.env).map (·.2) = [assign tg X.env] := by rfl) : DS X B (.Assign [tg] e pos) (fTgE fa ga) := PS.imp (ps_asg he hg hs hw h1) fun D σ H h => by
  obtain ⟨Z, ρ, fp, r, S, e, k⟩ := h
  obtain ⟨⟨o, ρ1⟩, eo, e⟩ := bind_some e
  obtain ⟨d, ed, e⟩ := bind_some e
  obtain ⟨ρ2, e2, e⟩ := bind_some e
  cases e
  refine ⟨Z, ρ, fp, o, ρ1, S, eo, fun Z1 H1 v1 g1 fp1 r1 S1 ow a1 => ?_⟩
  obtain ⟨Y1, T1, dz1, b1⟩ := frzE S1 r1 ow a1 S.own ed
  exact ⟨Y1, ρ1, fp1, d, ρ2, T1, dz1, e2, fun σ' fp' S' s' k' => k Y1 H1 σ' fp' S' (b1.less s') k'⟩
/-- a, b = x, y of plain locals, with writing -/
def setFr : List Nat → List PyData → Env → Option Env
  | [], [], ρ => some ρ
  | i :: is, d :: ds, ρ => setFr is ds (ρ.set i (some (.fr d)))
  | _, _, _ => none
def fParE (is : List Nat) (fl : FDE) : FS := fun ρ => (fl ρ).bind fun p => (setFr is p.1 p.2).bind fun ρ' => some (.nx ρ')
theorem s_parE2 (i j : Nat) {x y : Str} {px py pt pt2 : Pos} {kt k2 : Nat} (hc : X.calm = true) (hN : X.N.Nodup) (ha : EA X [a, b] fl) (hi : X.N[i]? = some x := by rfl) (hj : X.N[j]? = some y := by rfl) (hij : i ≠ j := by decide)
    (hx : X.env.scope.names.lookup x = some .local := by rfl) (hy : X.env.scope.names.lookup y = some .local := by rfl) (hBi : i ∉ B := by decide) (hBj : j ∉ B := by decide)
    (hw : swappedStores [.Tuple [.Name x px, .Name y py] kt pt] (.Tuple [a, b] k2 pt2) X.env = pure (some [x, y]) := by rfl) (hs : swapsWithSole [.Tuple [.Name x px, .Name y py] kt pt] (.Tuple [a, b] k2 pt2) pos.line X.env = pure false := by rfl) :
    DS X B (.Assign [.Tuple [.Name x px, .Name y py] kt pt] (.Tuple [a, b] k2 pt2) pos) (fParE [i, j] fl) := PS.imp (ps_par hc hN hi hj hij hx hy ha hw hs) fun D σ H h => by
  obtain ⟨Z, ρ, fp, r, S, e, k⟩ := h
  obtain ⟨⟨ds, ρ1⟩, eo, e⟩ := bind_some e
  obtain ⟨ρ2, e2, e⟩ := bind_some e
  cases e
  refine ⟨Z, ρ, fp, ds, ρ1, S, eo, fun Z1 H1 vs fp1 dv S1 a1 => ?_⟩
  match ds, e2, dv with
  | [d1, d2], e2, dv =>
    cases e2
    obtain ⟨v, u, rfl, q1, q2⟩ := two_of dv
    obtain ⟨fp2, S2, s2⟩ := S1.set (g := []) (.fr q1) (by simpa using S1.own) i
    obtain ⟨fp3, S3, s3⟩ := S2.set (g := []) (.fr q2) (by simpa using S2.own) j
    refine ⟨v, u, rfl, k Z1 H1 _ fp3 S3 (a1.less fun b m => ?_) ((kpB_set hBi).trans (kpB_set hBj))⟩
    have q := s3 b m
    simp only [List.nil_append] at q
    have q := s2 b q
    simpa using q
  | [], e2, _ => cases e2
  | [_], e2, _ => cases e2
  | _ :: _ :: _ :: _, e2, _ => cases e2
end
end DL

namespace DL
open PySem PySem.Spec PyProof.Rows L2

/-! ## calls with a first argument that is lent -/
abbrev FnB := Ob → List PyData → Option (Ob × Ob)
def spB (K : PySem.W.Frag) (n : Nat) (F : FnB) : Sp := fun vs H Q _ => ∃ v0 rest Z o g ds r o', vs = v0 :: rest ∧ Za Z H ∧ RepO K Z H v0 o g ∧ Own Z H g ∧ DpZs K Z H rest ds ∧ ds.length = n ∧ F o ds = some (r, o') ∧
  ∀ Z' H' v g' gr, RepO K Z' H' v r gr → RepO K Z' H' v0 o' g' → Own Z' H' (gr ++ g') → Fr H g Z H' (gr ++ g') Z' → Q v H'
/-- a def's call with frozen arguments, some of which write -/
def eCall (n : Nat) (F : Fn) (fl : FDE) : FE := fun ρ => (fl ρ).bind fun p => if Nat.beq p.1.length n then (F p.1).bind fun o => some (o, p.2) else none
def eCallB (i n : Nat) (F : FnB) (fl : FDE) : FE := fun ρ => match ρ[i]? with
  | some (some _) => (fl ρ).bind fun p => if Nat.beq p.1.length n then match p.2[i]? with
    | some (some o) => (F o p.1).bind fun q => some (q.1, p.2.set i (some q.2))
    | _ => none
    else none
  | _ => none
def startB (m : Nat) (o : Ob) (ds : List PyData) : Env := some o :: (ds.map (fun d => some (.fr d)) ++ List.replicate (m - (ds.length + 1)) none)
def fnOfB (m : Nat) (f : FS) : FnB := fun o ds => (f (startB m o ds)).bind fun r => match r with
  | .rt x ρ' => (ρ'[0]?).join.bind fun o' => some (x, o')
  | .nx ρ' => (ρ'[0]?).join.bind fun o' => some (.fr .none, o')
  | _ => none
section
variable {X : Cx} {CX : CXT} {k : Nat} {f : Addr} {fd : FuncData} {ps : List Str} {E : XK} {x y : Str} {p p0 pos : Pos} {e : Expr} {es : List Expr} {fl : FDE} {n : Nat} {F : Fn} {G : FnB}
theorem e_call (F' : FnOk X.prog X.w X.K X.mg X.base CX0 k f fd ps (spP X.K n F)) (hr : Room k X.A) (hg : Gl X x) (hm : X.mg x = some (.ref f)) (hk : PySem.W.keepIn X.K (.ref f) = true) (hb : Binds X.K fd ps [])
    (ha : EA X (e :: es) fl) (hdb : (x == ("__debug__" : Str)) = false := by decide) (he : starEach (e :: es) X.env = (false, eval e X.env) :: starEach es X.env := by rfl) (hpl : (backTo pos (starEach es X.env)).any (·.1) = false := by rfl) :
    DE X (.Call (.Name x p) (e :: es) [] pos) (eCall n F fl) := PE.imp (pe_call F' hr hg hm hk hb .nil pass0 ha hdb he hpl) fun σ H Q h => by
  obtain ⟨Z, ρ, fp, o, ρ', S, e, kk⟩ := h
  obtain ⟨⟨ds, ρ1⟩, ed, e⟩ := bind_some e
  split at e
  · rename_i hn
    obtain ⟨o1, eo, e⟩ := bind_some e
    cases e
    refine ⟨Z, ρ, fp, ds, ρ1, S, ed, fun Z1 H1 vs fp1 dv S1 a1 => ?_⟩
    show spP X.K n F (vs ++ []) H1 Q E0
    rw [List.append_nil]
    exact ⟨Z1, ds, o, S1.za, dv, Nat.eq_of_beq_eq_true hn, eo, Rst.behind S S1 a1 kk⟩
  · cases e
/-- the arguments, the first one a local's own object -/
theorem ea_lent (i : Nat) (hN : X.N[i]? = some y := by rfl) (hv : Vis X.env.scope y := by first | exact Or.inl rfl | exact Or.inr (Or.inl rfl) | exact Or.inr (Or.inr rfl)) (hd : (y == ("__debug__" : Str)) = false := by decide)
    (hcd : (y == ("__classdict__" : Str)) = false := by decide) (hr : EA X es fl) (hs : starEach (.Name y p0 :: es) X.env = (false, eval (.Name y p0) X.env) :: starEach es X.env := by rfl) :
    PA X (.Name y p0 :: es) (fun σ H Q => ∃ v, σ[i]? = some (some v) ∧ tEA X.K fl σ H fun vs H' => Q (v :: vs) H') := PA.imp (pa_cons (pe_var hN hv hd hcd) hr hs) fun σ H Q h => h
theorem e_lent (i : Nat) (F' : FnOk X.prog X.w X.K X.mg X.base CX0 k f fd ps (spB X.K n G)) (hr : Room k X.A) (hg : Gl X x) (hm : X.mg x = some (.ref f)) (hk : PySem.W.keepIn X.K (.ref f) = true) (hb : Binds X.K fd ps [])
    (ha : EA X es fl) (hN : X.N[i]? = some y := by rfl) (hv : Vis X.env.scope y := by first | exact Or.inl rfl | exact Or.inr (Or.inl rfl) | exact Or.inr (Or.inr rfl)) (hd : (y == ("__debug__" : Str)) = false := by decide)
    (hcd : (y == ("__classdict__" : Str)) = false := by decide) (hdb : (x == ("__debug__" : Str)) = false := by decide) (he : starEach (.Name y p0 :: es) X.env = (false, eval (.Name y p0) X.env) :: starEach es X.env := by rfl) (hpl : (backTo pos (starEach es X.env)).any (·.1) = false := by rfl) :
    DE X (.Call (.Name x p) (.Name y p0 :: es) [] pos) (eCallB i n G fl) := PE.imp (pe_call F' hr hg hm hk hb .nil pass0 (ea_lent i hN hv hd hcd ha he) hdb he hpl) fun σ H Q h => by
  obtain ⟨Z, ρ, fp, o, ρ', S, e, kk⟩ := h
  unfold eCallB at e
  split at e
  · rename_i ob0 eb0
    obtain ⟨⟨ds, ρ1⟩, ed, e⟩ := bind_some e
    split at e
    · rename_i hn
      split at e
      · rename_i ob eb
        obtain ⟨⟨r, o'⟩, eo, e⟩ := bind_some e
        cases e
        obtain ⟨v0, _, h0, _, _⟩ := S.er.get eb0
        refine ⟨v0, h0, Z, ρ, fp, ds, ρ1, S, ed, fun Z1 H1 vs fp1 dv S1 a1 => ?_⟩
        show spB X.K n G (v0 :: vs ++ []) H1 Q E0
        rw [List.append_nil]
        obtain ⟨v, g, h1, h2, ow, wr⟩ := S1.write eb
        rw [h0] at h1
        cases h1
        refine ⟨v0, vs, Z1, ob, g, ds, r, o', rfl, S1.za, h2, ow, dv, Nat.eq_of_beq_eq_true hn, eo, fun Z2 H2 v2 g2 gr r2 r3 ow2 a2 => ?_⟩
        obtain ⟨fp2, S2, ow3, a3⟩ := wr Z2 H2 o' g2 gr a2 r3 ow2
        exact kk Z2 H2 v2 gr fp2 r2 S2 ow3 (a1.trans a3)
      · cases e
    · cases e
  · cases e
/-- THE RULE for a def with a lent first argument -/
theorem startB_er {K : PySem.W.Frag} {Z : Zs} {H : Hp} {N : List Str} {vs : List V} {ds : List PyData} {v0 : V} {o : Ob} {g : List Addr} (r : RepO K Z H v0 o g) (h : DpZs K Z H vs ds) : ER K Z H (L2.start N (v0 :: vs)) (startB N.length o ds) g := by
  have q := start_er (N := N) h (N.length - (ds.length + 1))
  have e : L2.start N (v0 :: vs) = some v0 :: (vs.map some ++ List.replicate (N.length - (ds.length + 1)) none) := by
    unfold L2.start
    rw [List.length_cons, h.length]
    rfl
  rw [e]
  have w := ER.one r q
  rw [List.append_nil] at w
  exact w
theorem fn_okB {P : Program} {w : World} {K : PySem.W.Frag} {mg : Str → Option Value} {base : Heap} {qx qual : Str} {params : Arguments} {body : List Stmt} {scope : Scope} {N : List Str} {k m n : Nat} {fs : FS} (Fd : FunD K qx qual params body scope [] [] f fd) (S : FnScope N ps scope) (hps : ps.length = n + 1) (hN : N.length = m)
    (h : ∀ (cdv : Value) (A : Around) (outer : List PySem.Env) (s : Shared) (H : Hp) (E : XK), Room k (A.deeper (envOfC qual scope s.heap.objs.size f cdv)) → DSs (cxOf CX0 P w K mg base N qual scope f cdv A outer s H E).nox [0] body fs) :
    FnOk P w K mg base CX0 (k + 1) f fd ps (spB K n (fnOfB m fs)) := by
  refine Fd.ok S (fun vs H Q E h => ?_) fun cdv A outer s H vs Q E hr hq => ⟨_, (h cdv A outer s H E hr).nox, ?_⟩
  · obtain ⟨v0, rest, Z, o, g, ds, r, o', rfl, _, _, _, h1, h2, _⟩ := h
    rw [List.length_cons, h1.length, h2, hps]
  · obtain ⟨v0, rest, Z, o, g, ds, x, o', rfl, za, r0, ow, h1, h2, h3, q⟩ := hq
    obtain ⟨r, er, e⟩ := bind_some h3
    have er0 : ER K Z H (start N (v0 :: rest)) (startB m o ds) g := by rw [← hN]; exact startB_er r0 h1
    refine ⟨Z, startB m o ds, g, r, ⟨er0, ow, za⟩, er, ?_⟩
    have sig0 : (start N (v0 :: rest))[0]? = some (some v0) := rfl
    -- the lent object at the end
    have last : ∀ {Z' : Zs} {H' : Hp} {σ' : L2.St} {ρ' : Env} {fp' : List Addr}, Stt K Z' H' σ' ρ' fp' → KpB [0] (start N (v0 :: rest)) σ' → (ρ'[0]?).join = some o' → ∃ g', RepO K Z' H' v0 o' g' ∧ ∀ gr, Own Z' H' (gr ++ fp') → Own Z' H' (gr ++ g') ∧ ∀ b ∈ gr ++ g', b ∈ gr ++ fp' := fun {Z' H' σ' ρ' fp'} S' kb eo => by
      have eo' : ρ'[0]? = some (some o') := by
        cases q : ρ'[0]? with
        | none => rw [q] at eo; cases eo
        | some x => rw [q] at eo; rw [show x = some o' from eo]
      obtain ⟨v, g', A, C, rfl, h1, h2, _⟩ := S'.er.split eo'
      have k0 := kb.at_ 0 (by simp)
      rw [h1, sig0] at k0
      cases k0
      refine ⟨g', h2, fun gr ow' => ?_⟩
      have sub : ∀ b ∈ gr ++ g', b ∈ gr ++ (A ++ (g' ++ C)) := fun b m => by
        rcases List.mem_append.mp m with m | m
        · exact List.mem_append_left _ m
        · exact List.mem_append_right _ (List.mem_append_right _ (List.mem_append_left _ m))
      refine ⟨ow'.sub sub ?_, sub⟩
      obtain ⟨n1, n2, n3⟩ := List.nodup_append.mp ow'.nd
      obtain ⟨_, n5, _⟩ := List.nodup_append.mp n2
      obtain ⟨n7, _, _⟩ := List.nodup_append.mp n5
      exact List.nodup_append.mpr ⟨n1, n7, fun a m b m' => n3 a m b (List.mem_append_right _ (List.mem_append_left _ m'))⟩
    cases r with
    | rt y ρ' =>
      obtain ⟨o2, e2, e⟩ := bind_some e
      cases e
      intro Z' H' σ' fp' v gr S' r' ow' a kb
      obtain ⟨g', r2, own⟩ := last S' kb e2
      obtain ⟨ow2, sub⟩ := own gr ow'
      exact q Z' H' v g' gr r' r2 ow2 (a.less sub)
    | nx ρ' =>
      obtain ⟨o2, e2, e⟩ := bind_some e
      cases e
      intro Z' H' σ' fp' S' a kb
      obtain ⟨g', r2, own⟩ := last S' kb e2
      obtain ⟨ow2, sub⟩ := own [] (by simpa using S'.own)
      exact q Z' H' .non g' [] (.fr .non) r2 ow2 (a.less fun b m => by simpa using sub b m)
    | bk _ => cases e
    | ct _ => cases e
end
end DL

namespace DL
open PySem PySem.Spec PyProof.Rows L2

/-! ## the source of picks -/
inductive SK where
  | left | mixed | turn
def SK.key : SK → Str
  | .left => PySem.Str.ofString "left"
  | .mixed => PySem.Str.ofString "mixed"
  | .turn => PySem.Str.ofString "turn"
def SK.get : SK → Int → Int → Int → Int
  | .left, a, _, _ => a
  | .mixed, _, b, _ => b
  | .turn, _, _, c => c
def SK.put : SK → Int → List Int → Int → Int → Int → Ob
  | .left, x, l, _, b, c => .src l x b c
  | .mixed, x, l, a, _, c => .src l a x c
  | .turn, x, l, a, b, _ => .src l a b x
abbrev srcT (c : Addr) (a b d : Int) : List (Key × V) := [(kCells, .ref c), (kLeft, .int a), (kMixed, .int b), (kTurn, .int d)]
theorem srcT_get (c : Addr) (a b d : Int) (k : SK) : valV (srcT c a b d) (.inr k.key) = some (.int (k.get a b d)) := by
  cases k <;> rfl
theorem srcT_cells (c : Addr) (a b d : Int) : valV (srcT c a b d) (.inr (PySem.Str.ofString "cells")) = some (.ref c) := rfl
theorem srcT_put (c : Addr) (a b d x : Int) (k : SK) : putK (srcT c a b d) (.inr k.key) (.int x) = (match k with
    | .left => srcT c x b d
    | .mixed => srcT c a x d
    | .turn => srcT c a b x) := by
  cases k <;> rfl
def srcI (i : Nat) (k : SK) : F1 := fun ρ => match ρ[i]? with
  | some (some (.src _ a b c)) => some (.fr (.int (k.get a b c)))
  | _ => none
def srcC (i : Nat) : F1 := fun ρ => match ρ[i]? with
  | some (some (.src l _ _ _)) => some (.lst (l.map .int))
  | _ => none
def fSrcSet (i : Nat) (k : SK) (f : F1) : FS := fun ρ => match ρ[i]? with
  | some (some (.src l a b c)) => (f ρ).bind fun o => (asI o).bind fun x => some (.nx (ρ.set i (some (k.put x l a b c))))
  | _ => none
def lastI : List Int → Option (List Int × Int)
  | [] => none
  | [x] => some ([], x)
  | x :: y :: r => (lastI (y :: r)).bind fun p => some (x :: p.1, p.2)
def fSrcPop (i : Nat) : FS := fun ρ => match ρ[i]? with
  | some (some (.src l a b c)) => (lastI l).bind fun p => some (.nx (ρ.set i (some (.src p.1 p.2 b c))))
  | _ => none
theorem lastI_eq : ∀ {l m : List Int} {x : Int}, lastI l = some (m, x) → l = m ++ [x]
  | [], _, _, h => by cases h
  | [y], _, _, h => by cases h; rfl
  | y :: z :: r, m, x, h => by
    obtain ⟨p, hp, h⟩ := bind_some (show ((lastI (z :: r)).bind fun p => some (y :: p.1, p.2)) = some (m, x) from h)
    cases h
    rw [lastI_eq hp]
    rfl
section
variable {X : Cx} {B : List Nat} {pos npos kpos ipos : Pos} {x : Str} {j : Nat} {e : Expr} {f : F1}
theorem src_of {K : PySem.W.Frag} {Z : Zs} {H : Hp} {v : V} {l : List Int} {a b d : Int} {g : List Addr} (r : RepO K Z H v (.src l a b d) g) : ∃ q c, v = .ref q ∧ g = [q, c] ∧ H q = some (.dK (srcT c a b d)) ∧ H c = some (.lst (l.map V.int)) := by
  cases r with
  | src h1 h2 => exact ⟨_, _, rfl, rfl, h1, h2⟩
theorem srcT_dget {H : Hp} {q c : Addr} {a b d : Int} (h : H q = some (.dK (srcT c a b d))) (k : SK) : DGet H q (.str k.key) (some (.int (k.get a b d))) := by
  rw [← srcT_get c a b d k]
  exact DGet.k (k := .inr k.key) h
theorem srcT_dgetC {H : Hp} {q c : Addr} {a b d : Int} (h : H q = some (.dK (srcT c a b d))) : DGet H q (.str (PySem.Str.ofString "cells")) (some (.ref c)) := by
  rw [← srcT_cells c a b d]
  exact DGet.k (k := .inr (PySem.Str.ofString "cells")) h
theorem d_srcI (i : Nat) (k : SK) {kc} (hu : X.A.units + 64 < cLine) (hN : X.N[i]? = some x := by rfl) (hv : Vis X.env.scope x := by first | exact Or.inl rfl | exact Or.inr (Or.inl rfl) | exact Or.inr (Or.inr rfl)) (hd : (x == ("__debug__" : Str)) = false := by decide)
    (hcd : (x == ("__classdict__" : Str)) = false := by decide) (hs : NoSl (.Constant (.str k.key) kc kpos) := by intro _ _; rfl) : DP X (.Subscript (.Name x npos) (.Constant (.str k.key) kc kpos) pos) (srcI i k) := PE.imp (pe_dget (by omega) (pe_var hN hv hd hcd) pe_str hs) fun σ H Q h => by
  obtain ⟨Z, ρ, fp, o, S, e, kk⟩ := h
  unfold srcI at e
  split at e
  · rename_i el
    cases e
    obtain ⟨v, g, h1, h2, _⟩ := S.er.get el
    obtain ⟨q, c, rfl, rfl, h3, h4⟩ := src_of h2
    exact ⟨.ref q, h1, q, _, rfl, srcT_dget h3 k, kk Z H _ [] (.fr (.int _)) .nil .refl⟩
  · cases e
theorem r_srcC (i : Nat) {kc} (hu : X.A.units + 64 < cLine) (hN : X.N[i]? = some x := by rfl) (hv : Vis X.env.scope x := by first | exact Or.inl rfl | exact Or.inr (Or.inl rfl) | exact Or.inr (Or.inr rfl)) (hd : (x == ("__debug__" : Str)) = false := by decide)
    (hcd : (x == ("__classdict__" : Str)) = false := by decide) (hs : NoSl (.Constant (.str (PySem.Str.ofString "cells")) kc kpos) := by intro _ _; rfl) : PR X (.Subscript (.Name x npos) (.Constant (.str (PySem.Str.ofString "cells")) kc kpos) pos) (srcC i) := PE.imp (pe_dget (by omega) (pe_var hN hv hd hcd) pe_str hs) fun σ H Q h => by
  obtain ⟨Z, ρ, fp, o, S, e, kk⟩ := h
  unfold srcC at e
  split at e
  · rename_i el
    cases e
    obtain ⟨v, g, h1, h2, _⟩ := S.er.get el
    obtain ⟨q, c, rfl, rfl, h3, h4⟩ := src_of h2
    exact ⟨.ref q, h1, q, _, rfl, srcT_dgetC h3, kk Z H _ [c] (.lst h4 (scr_ints _)) .refl⟩
  · cases e
theorem put_src {Hq : Hp} {K : PySem.W.Frag} {q c : Addr} {l : List Int} {a b d y : Int} {Z : Zs} (k : SK) (h3 : Hq q = some (.dK (srcT c a b d))) (h4 : Hq c = some (.lst (l.map V.int))) : RepO K Z (upd Hq q (.dK (putK (srcT c a b d) (.inr k.key) (.int y)))) (.ref q) (k.put y l a b d) [q, c] := by
  have ne : c ≠ q := ne_of h4 h3 (fun z => nomatch z)
  rw [srcT_put]
  cases k <;> exact .src upd_same (by rw [upd_ne ne]; exact h4)
theorem s_srcSet (i : Nat) (k : SK) {kc} (hu : X.A.units + 64 < cLine) (he : DP X e f) (hN : X.N[i]? = some x := by rfl) (hv : Vis X.env.scope x := by first | exact Or.inl rfl | exact Or.inr (Or.inl rfl) | exact Or.inr (Or.inr rfl)) (hd : (x == ("__debug__" : Str)) = false := by decide)
    (hcd : (x == ("__classdict__" : Str)) = false := by decide) (hsw : swapsWith e (some (.Subscript (.Name x npos) (.Constant (.str k.key) kc kpos) ipos)) pos.line X.env = pure false := by rfl) :
    DS X B (.Assign [.Subscript (.Name x npos) (.Constant (.str k.key) kc kpos) ipos] e pos) (fSrcSet i k f) := PS.imp (ps_dput (by omega) (pe_var hN hv hd hcd) pe_str he hsw) fun D σ H h => by
  obtain ⟨Z, ρ, fp, r, S, e, kk⟩ := h
  unfold fSrcSet at e
  split at e
  · rename_i l a b d el
    obtain ⟨o, eo, e⟩ := bind_some e
    obtain ⟨y, ey, e⟩ := bind_some e
    cases e
    refine ⟨Z, ρ, fp, o, S, eo, fun Z1 H1 v1 g1 r1 o1 a1 => ?_⟩
    have a1' : Fr H [] Z H1 [] Z1 := a1.less fun _ m => (nomatch m)
    have S1 := S.still a1'
    obtain ⟨v, g, h1, h2, ow, wr⟩ := S1.write el
    obtain ⟨q, c, rfl, rfl, h3, h4⟩ := src_of h2
    rw [asI_rep r1 ey]
    refine ⟨.ref q, h1, q, _, rfl, DPut.k (k := .inr k.key) h3 (show 4 < sizeLine by decide), ?_⟩
    obtain ⟨fp', S3, _, f3⟩ := wr Z1 _ (k.put y l a b d) [q, c] [] (Fr.upd1 ⟨_, h3⟩ List.mem_cons_self) (put_src k h3 h4) (ow.upd1 trivial)
    exact kk _ _ σ fp' S3 ((tail_fr a1').trans f3) .rfl
  · cases e
/-- x['left'] = x['cells'].pop() -/
theorem pop_src {K : PySem.W.Frag} {σ : L2.St} {ρ : Env} {fp : List Addr} {Z : Zs} {H : Hp} {i : Nat} {l m : List Int} {y a b d : Int} {q c : Addr} (S : Stt K Z H σ ρ fp) (el : ρ[i]? = some (some (.src l a b d))) (hq : σ[i]? = some (some (.ref q))) (hc : H q = some (.dK (srcT c a b d))) (e : lastI l = some (m, y)) :
    ∃ fp', Stt K Z (upd (upd H c (.lst (m.map V.int))) q (.dK (putK (srcT c a b d) (.inr SK.left.key) (.int y)))) σ (ρ.set i (some (.src m y b d))) fp' ∧ Fr H fp Z (upd (upd H c (.lst (m.map V.int))) q (.dK (putK (srcT c a b d) (.inr SK.left.key) (.int y)))) fp' Z := by
  obtain ⟨v, g, h1, h2, ow, wr⟩ := S.write el
  rw [hq] at h1
  cases h1
  obtain ⟨q', c', e1, rfl, h3, h4⟩ := src_of h2
  cases e1
  have ec : c' = c := by
    rw [hc] at h3
    have z := Option.some.inj h3
    injection z with z
    have z := congrArg (fun t => valV t kCells) z
    have z : some (V.ref c) = some (V.ref c') := z
    injection z with z
    injection z with z
    exact z.symm
  subst ec
  have ne : c' ≠ q := ne_of h4 h3 (fun z => nomatch z)
  have u1 : Fr H [q, c'] Z (upd H c' (.lst (m.map V.int))) [q, c'] Z := Fr.upd1 ⟨_, h4⟩ (by simp)
  have h5 : upd H c' (.lst (m.map V.int)) q = some (.dK (srcT c' a b d)) := by rw [upd_ne (Ne.symm ne)]; exact h3
  have u2 := u1.trans (Fr.upd1 (o := .dK (putK (srcT c' a b d) (.inr SK.left.key) (.int y))) ⟨_, h5⟩ (show q ∈ [q, c'] by simp))
  obtain ⟨fp', S3, _, f3⟩ := wr Z _ (SK.left.put y m a b d) [q, c'] [] u2 (put_src .left h5 upd_same) ((ow.upd1 (a := c') (o := .lst (m.map V.int)) trivial).upd1 trivial)
  exact ⟨fp', S3, f3⟩
theorem map_last {l m : List Int} {y : Int} (e : lastI l = some (m, y)) : (l.map V.int)[(l.map V.int).length - 1]? = some (V.int y) ∧ (l.map V.int).dropLast = m.map V.int := by
  rw [lastI_eq e, List.map_append]
  constructor
  · rw [List.length_append]
    simp
  · simp
variable {p1 p2 p3 p4 p5 p6 p7 : Pos} {k1 k2 : Nat}
theorem s_srcPop (i : Nat) {kc kc2} (hu : X.A.units + 64 < cLine) (hN : X.N[i]? = some x := by rfl) (hv : Vis X.env.scope x := by first | exact Or.inl rfl | exact Or.inr (Or.inl rfl) | exact Or.inr (Or.inr rfl)) (hd : (x == ("__debug__" : Str)) = false := by decide)
    (hcd : (x == ("__classdict__" : Str)) = false := by decide) (hs : NoSl (.Constant (.str (PySem.Str.ofString "cells")) kc2 p2) := by intro _ _; rfl)
    (hbase : attributeBase (.Subscript (.Name x p1) (.Constant (.str (PySem.Str.ofString "cells")) kc2 p2) p3) "pop" X.env (eval (.Subscript (.Name x p1) (.Constant (.str (PySem.Str.ofString "cells")) kc2 p2) p3) X.env) = eval (.Subscript (.Name x p1) (.Constant (.str (PySem.Str.ofString "cells")) kc2 p2) p3) X.env := by rfl) (hln : (p4.endLine == p5.line) = true := by rfl)
    (hsw : swapsWith (.Call (.Attribute (.Subscript (.Name x p1) (.Constant (.str (PySem.Str.ofString "cells")) kc2 p2) p3) "pop" p4) [] [] p5) (some (.Subscript (.Name x npos) (.Constant (.str (PySem.Str.ofString "left")) kc kpos) ipos)) pos.line X.env = pure false := by rfl) :
    DS X B (.Assign [.Subscript (.Name x npos) (.Constant (.str (PySem.Str.ofString "left")) kc kpos) ipos] (.Call (.Attribute (.Subscript (.Name x p1) (.Constant (.str (PySem.Str.ofString "cells")) kc2 p2) p3) "pop" p4) [] [] p5) pos) (fSrcPop i) :=
  PS.imp (ps_dput (by omega) (pe_var hN hv hd hcd) pe_str (pe_bm0 PySem.F.plainAttrs_list PySem.F.slot_list_pop PySem.F.type_list_pop mt_pop (pe_dget (by omega) (pe_var hN hv hd hcd) pe_str hs) (hbase := hbase) (hline := hln)) hsw) fun D σ H h => by
  obtain ⟨Z, ρ, fp, r, S, e, kk⟩ := h
  unfold fSrcPop at e
  split at e
  · rename_i l a b d el
    obtain ⟨⟨m, y⟩, em, e⟩ := bind_some e
    cases e
    obtain ⟨v, g, h1, h2, _⟩ := S.er.get el
    obtain ⟨q, c, rfl, rfl, h3, h4⟩ := src_of h2
    obtain ⟨l1, l2⟩ := map_last em
    refine ⟨.ref q, h1, q, .ref c, rfl, srcT_dgetC h3, .inl ⟨rfl, _, .of h4⟩, c, _, .int y, rfl, rfl, h4, l1, .ref q, h1, q, ?_⟩
    rw [l2]
    have ne : c ≠ q := ne_of h4 h3 (fun z => nomatch z)
    have h5 : upd H c (.lst (m.map V.int)) q = some (.dK (srcT c a b d)) := by rw [upd_ne (Ne.symm ne)]; exact h3
    obtain ⟨fp', S3, f3⟩ := pop_src S el h1 h3 em
    exact ⟨_, rfl, DPut.k (k := .inr SK.left.key) h5 (show 4 < sizeLine by decide), kk _ _ σ fp' S3 f3 .rfl⟩
  · cases e
/-- {'cells': .., 'left': .., 'mixed': .., 'turn': ..} -/
def dSrc (f1 f2 f3 f4 : F1) : F1 := fun ρ => (f1 ρ).bind fun o1 => (f2 ρ).bind fun o2 => (f3 ρ).bind fun o3 => (f4 ρ).bind fun o4 => match o1 with
  | .lst l => (intsOf l).bind fun ns => (asI o2).bind fun a => (asI o3).bind fun b => (asI o4).bind fun d => some (.src ns a b d)
  | _ => none
variable {e1 e2 e3 e4 : Expr} {f1 f2 f3 f4 : F1} {q1 q2 q3 q4 : Pos}
theorem d_src {c1 c2 c3 c4} (h1 : DP X e1 f1) (h2 : DP X e2 f2) (h3 : DP X e3 f3) (h4 : DP X e4 f4) :
    DP X (.Dict [some (.Constant (.str (PySem.Str.ofString "cells")) c1 q1), some (.Constant (.str (PySem.Str.ofString "left")) c2 q2), some (.Constant (.str (PySem.Str.ofString "mixed")) c3 q3), some (.Constant (.str (PySem.Str.ofString "turn")) c4 q4)] [e1, e2, e3, e4] pos) (dSrc f1 f2 f3 f4) :=
  PE.imp (pe_disp (pps_cons pe_str h1 (pps_cons pe_str h2 (pps_cons pe_str h3 (pps_cons pe_str h4 pps_nil)))) rfl rfl (by simp) (show 4 ≤ 15 by decide)) fun σ H Q h => by
  obtain ⟨Z, ρ, fp, o, S, e, kk⟩ := h
  obtain ⟨o1, eo1, e⟩ := bind_some e
  obtain ⟨o2, eo2, e⟩ := bind_some e
  obtain ⟨o3, eo3, e⟩ := bind_some e
  obtain ⟨o4, eo4, e⟩ := bind_some e
  split at e
  · rename_i l
    obtain ⟨ns, en, e⟩ := bind_some e
    obtain ⟨a, ea, e⟩ := bind_some e
    obtain ⟨b, eb, e⟩ := bind_some e
    obtain ⟨d, ed, e⟩ := bind_some e
    cases e
    intro p np
    have a0 : Fr H [] Z (upd H p (.dK [])) [p] Z := upd_fr np Z (fun _ z => z) (fun _ z => .inl z) (fun b m => by simpa using m)
    have S0 := S.still (a0.less fun _ m => (nomatch m) : Fr H [] Z (upd H p (.dK [])) [] Z)
    have nz : ¬ Z p := fun z => by
      obtain ⟨o, q⟩ := S.za p z
      rw [np] at q; cases q
    refine ⟨Z, ρ, fp, _, S0, eo1, fun Z1 H1 v1 g1 r1 w1 a1 => ?_⟩
    obtain ⟨c, vs, rfl, rfl, h5, t5⟩ := lst_of r1
    have a1' : Fr (upd H p (.dK [])) [] Z H1 [] Z1 := a1.less fun _ m => (nomatch m)
    refine ⟨Z1, ρ, fp, _, S0.still a1', eo2, fun Z2 H2 v2 g2 r2 w2 a2 => ?_⟩
    have a2' : Fr H1 [] Z1 H2 [] Z2 := a2.less fun _ m => (nomatch m)
    refine ⟨Z2, ρ, fp, _, (S0.still a1').still a2', eo3, fun Z3 H3 v3 g3 r3 w3 a3 => ?_⟩
    have a3' : Fr H2 [] Z2 H3 [] Z3 := a3.less fun _ m => (nomatch m)
    refine ⟨Z3, ρ, fp, _, ((S0.still a1').still a2').still a3', eo4, fun Z4 H4 v4 g4 r4 w4 a4 => ?_⟩
    have a4' : Fr H3 [] Z3 H4 [] Z4 := a4.less fun _ m => (nomatch m)
    have a14 := (a2'.trans a3').trans a4'
    have a04 := a1'.trans a14
    have hp4 : H4 p = some (.dK []) := a04.same p _ upd_same (by simp)
    have hc4 : H4 c = some (.lst vs) := a14.same c _ h5 (by simp)
    have ens := ints_rep en t5
    subst ens
    refine ⟨hp4, srcT c a b d, ?_, show 4 ≤ 15 by decide, ?_⟩
    · rw [asI_rep r2 ea, asI_rep r3 eb, asI_rep r4 ed]
      rfl
    · show Q (.ref p) (upd H4 p (.dK (srcT c a b d)))
      have ne : c ≠ p := ne_of hc4 hp4 (fun z => nomatch z)
      have cH : H c = none := by
        cases q : H c with
        | none => rfl
        | some u =>
          have q2 : upd H p (.dK []) c = some u := by rw [upd_ne ne]; exact q
          exact absurd (a1.new c u q2 (by simp)) (by simp)
      have zc : ¬ Z4 c := fun z => by
        rcases a14.znew c _ h5 z with z | z
        · exact w1.nz c (by simp) z
        · cases z
      have zp : ¬ Z4 p := fun z => by
        rcases a04.znew p _ upd_same z with z | z
        · exact nz z
        · cases z
      have fin : Fr H [] Z (upd H4 p (.dK (srcT c a b d))) [p, c] Z4 := by
        have f1 : Fr H [] Z H4 [p] Z4 := a0.trans (tail_fr a04)
        have f2 := f1.trans (Fr.upd1 (o := .dK (srcT c a b d)) ⟨_, hp4⟩ (show p ∈ [p] by simp))
        refine ⟨f2.same, f2.zup, f2.znew, fun b o q m => ?_, f2.zal⟩
        rcases List.mem_cons.mp m with rfl | m
        · rw [np] at q; cases q
        · obtain rfl : b = c := by simpa using m
          rw [cH] at q; cases q
      refine kk Z4 _ (.ref p) [p, c] (.src upd_same (by rw [upd_ne ne]; exact hc4)) ⟨by simp [Ne.symm ne], fun x m => ?_, fun x m => ?_⟩ fin
      · rcases List.mem_cons.mp m with rfl | m
        · exact zp
        · obtain rfl : x = c := by simpa using m
          exact zc
      · rcases List.mem_cons.mp m with rfl | m
        · exact ⟨_, upd_same, trivial⟩
        · obtain rfl : x = c := by simpa using m
          exact ⟨.lst (ns.map V.int), by rw [upd_ne ne]; exact hc4, trivial⟩
  · cases e
end
end DL

namespace DL
open PySem PySem.Spec PyProof.Rows L2

/-! ## the script -/
def iScr (i : Nat) : FD := fun ρ => match ρ[i]? with
  | some (some (.scr l)) => some (l.map .int)
  | _ => none
section
variable {X : Cx} {tg : Expr} {npos : Pos} {x : Str}
theorem iter_scr {K : PySem.W.Frag} {Z : Zs} {H : Hp} {a : Addr} {l : List Int} {g : List Addr} (r : RepO K Z H (.ref a) (.scr l) g) : IterOk K Z H (Itl K a) (l.map .int) := fun i Z2 H2 k za => by
  have h2 : SqL K H2 a (l.map V.int) := by
    cases r with
    | scr h =>
      rcases h with ⟨z, h⟩ | h
      · exact .inl (h.imp (k.zs _ _ z) fun ⟨o, h⟩ => ⟨o, k.zs _ _ z h⟩)
      · exact h H2
  refine ⟨fun d hd => ?_, fun hl => ⟨_, h2, by simpa using hl⟩⟩
  rw [List.getElem?_map] at hd
  obtain ⟨n, hn, rfl⟩ := Option.map_eq_some_iff.mp hd
  have h3 : (l.map V.int)[i]? = some (V.int n) := by rw [List.getElem?_map, hn]; rfl
  refine ⟨⟨_, _, h2, h3⟩, fun x H3 y => ?_⟩
  obtain ⟨rfl, hy⟩ := y
  have e := (hy _ h2).symm.trans h3
  cases e
  exact ⟨Z2, .int n, .refl⟩
theorem scr_sql {K : PySem.W.Frag} {Z : Zs} {H : Hp} {v : V} {l : List Int} {g : List Addr} (r : RepO K Z H v (.scr l) g) : ∃ a, v = .ref a ∧ SqL K H a (l.map V.int) := by
  cases r with
  | scr h =>
    rcases h with ⟨_, h⟩ | h
    · exact ⟨_, rfl, .inl h⟩
    · exact ⟨_, rfl, h H⟩
theorem i_scr (i : Nat) (hN : X.N[i]? = some x := by rfl) (hv : Vis X.env.scope x := by first | exact Or.inl rfl | exact Or.inr (Or.inl rfl) | exact Or.inr (Or.inr rfl)) (hd : (x == ("__debug__" : Str)) = false := by decide)
    (hcd : (x == ("__classdict__" : Str)) = false := by decide) : DI X tg (.Name x npos) (iScr i) := PI.imp (pi_list (pe_var hN hv hd hcd)) fun σ H R q => by
  obtain ⟨Z, ρ, fp, ds, S, e, k⟩ := q
  unfold iScr at e
  split at e
  · rename_i l el
    cases e
    obtain ⟨v, g, h1, h2, _⟩ := S.er.get el
    obtain ⟨a, rfl, h3⟩ := scr_sql h2
    exact ⟨.ref a, h1, a, rfl, ⟨_, h3⟩, k Z H _ (iter_scr h2) .refl⟩
  · cases e
end

/-! ## the module's tables of rows of ints -/
/-- a row of rows of ints, a constant -/
structure KRows (K : PySem.W.Frag) (a : Addr) (rows : List (List Int)) : Prop where
  at_ : ∃ bs : List Addr, (∀ H : Hp, SqT K H a (bs.map V.ref)) ∧ Paired (fun b row => ∀ H : Hp, SqT K H b (row.map V.int)) bs rows
structure KTab (K : PySem.W.Frag) (w : World) (d : Addr) (tab : List (Str × List (List Int))) : Prop where
  dict : ∃ es n, KDict K w d es n
  vals : ∀ q ∈ tab, ∃ a, PySem.W.nsIn K d q.1 = some (some (.ref a)) ∧ KRows K a q.2
def rowD (row : List Int) : PyData := .tuple (row.map .int)
def RC (K : PySem.W.Frag) : Rel1 := fun _ _ v d => ∃ b row, v = .ref b ∧ (∀ H : Hp, SqT K H b (row.map V.int)) ∧ d = rowD row
def tabAt : List (Str × List (List Int)) → Str → Option (List (List Int))
  | [], _ => none
  | q :: r, z => if decide (q.1 = z) then some q.2 else tabAt r z
def iTab (tab : List (Str × List (List Int))) (f : F1) : FD := fun ρ => (f ρ).bind fun o => match o with
  | .fr (.str z) => (tabAt tab z).bind fun rows => some (rows.map rowD)
  | _ => none
section
variable {X : Cx} {tg e : Expr} {f : F1} {npos pos : Pos} {x : Str} {d : Addr} {tab : List (Str × List (List Int))}
theorem tabAt_mem : ∀ {tab : List (Str × List (List Int))} {z : Str} {rows : List (List Int)}, tabAt tab z = some rows → (z, rows) ∈ tab
  | [], _, _, h => by cases h
  | q :: r, z, rows, h => by
    unfold tabAt at h
    by_cases e : q.1 = z
    · rw [decide_eq_true e, if_pos rfl] at h
      cases h
      rw [← e]
      exact List.mem_cons_self
    · rw [decide_eq_false e, if_neg Bool.false_ne_true] at h
      exact List.mem_cons_of_mem _ (tabAt_mem h)
theorem pe_kd {t : TE} {es : Array DictEntry} {n : Nat} (D : KDict X.K X.w d es n) (hg : Gl X x) (hm : X.mg x = some (.ref d)) (hi : PE X e t) (hs : NoSl e) (hd : (x == ("__debug__" : Str)) = false := by decide) :
    PE X (.Subscript (.Name x npos) e pos) (fun σ H Q => t σ H fun y H' => ∃ (z : Str) (u0 : Value) (v0 : V), y = .str z ∧ PySem.W.nsIn X.K d z = some (some u0) ∧ RelV v0 u0 ∧ Q v0 H') := by
  refine ⟨fun pins s σ H Q I h => subD_of PySem.F.slot_dict_getitem.lookup hs (thn ((pe_glob (X := X) (v := .ref d) hg hm rfl hd).run pins s σ H (fun v H1 => v = V.ref d ∧ t σ H1 fun y H' => ∃ (z : Str) (u0 : Value) (v0 : V), y = .str z ∧ PySem.W.nsIn X.K d z = some (some u0) ∧ RelV v0 u0 ∧ Q v0 H') I ⟨rfl, h⟩) fun u s1 h1 => ?_)⟩
  obtain ⟨v, H1, I1, rv, rfl, q⟩ := h1
  cases rv
  refine thn (hi.run pins s1 σ H1 _ I1 q) fun iv s2 h2 => ?_
  obtain ⟨y, H2, I2, ry, z, u0, v0, rfl, e0, r0, q0⟩ := h2
  exact ⟨kd_type D I2, op_item_kd D pins s2 σ H2 (.ref d) (.str z) (.ref d) iv Q I2 rfl ry ⟨z, u0, v0, rfl, rfl, e0, r0, q0⟩⟩
theorem paired_at {α β : Type} {F : α → β → Prop} : ∀ {l : List α} {m : List β} {i : Nat} {y : β}, Paired F l m → m[i]? = some y → ∃ x, l[i]? = some x ∧ F x y
  | _, _, _, _, .nil, e => by simp at e
  | _, _, 0, _, .cons h _, e => by simp at e; subst e; exact ⟨_, rfl, h⟩
  | _, _, i + 1, _, .cons _ t, e => by
    obtain ⟨x, h1, h2⟩ := paired_at (i := i) t (by simpa using e)
    exact ⟨x, by simpa using h1, h2⟩
theorem iter_rows {K : PySem.W.Frag} {Z : Zs} {H : Hp} {a : Addr} {bs : List Addr} {rows : List (List Int)} (ha : ∀ H : Hp, SqT K H a (bs.map V.ref)) (hp : Paired (fun b row => ∀ H : Hp, SqT K H b (row.map V.int)) bs rows) : IterR (RC K) Z H (Itt K a) (rows.map rowD) := fun i Z2 H2 k za => by
  refine ⟨fun d hd => ?_, fun hl => ⟨_, ha H2, by rw [List.length_map, Paired.length hp]; simpa using hl⟩⟩
  rw [List.getElem?_map] at hd
  obtain ⟨row, hr, rfl⟩ := Option.map_eq_some_iff.mp hd
  obtain ⟨b, hb, hs⟩ := paired_at hp hr
  have h3 : (bs.map V.ref)[i]? = some (V.ref b) := by rw [List.getElem?_map, hb]; rfl
  refine ⟨⟨_, _, ha H2, h3⟩, fun x H3 y => ?_⟩
  obtain ⟨rfl, hy⟩ := y
  have e := (hy _ (ha H3)).symm.trans h3
  cases e
  exact ⟨Z2, ⟨b, row, rfl, hs, rfl⟩, .refl⟩
/-- for .. in TAB[e] -/
theorem i_tab (T : KTab X.K X.w d tab) (hg : Gl X x) (hm : X.mg x = some (.ref d)) (he : DP X e f) (hs : NoSl e := by intro _ _; rfl) (hd : (x == ("__debug__" : Str)) = false := by decide) :
    PI X tg (.Subscript (.Name x npos) e pos) (tIR X.K (RC X.K) (iTab tab f)) := by
  obtain ⟨es, n, D⟩ := T.dict
  refine PI.imp (pi_tup (pe_kd D hg hm he hs hd)) fun σ H R q => ?_
  obtain ⟨Z, ρ, fp, ds, S, e, k⟩ := q
  obtain ⟨o, eo, e⟩ := bind_some e
  split at e
  · rename_i z
    obtain ⟨rows, er, e⟩ := bind_some e
    cases e
    obtain ⟨a, h1, h2⟩ := T.vals _ (tabAt_mem er)
    obtain ⟨bs, ha, hp⟩ := h2.at_
    refine ⟨Z, ρ, fp, _, S, eo, fun Z1 H1 v1 g1 r1 o1 a1 => ?_⟩
    obtain ⟨d1, _⟩ := asD_rep r1 rfl
    cases d1
    exact ⟨z, .ref a, .ref a, rfl, h1, rfl, a, rfl, ⟨_, ha H1⟩, k Z1 H1 _ (iter_rows ha hp) (a1.less fun _ m => (nomatch m))⟩
  · cases e
theorem g_tupC {B : List Nat} {es : List Expr} {fs : FTs} {k n : Nat} (hc : X.calm = true) (h : DGs X B es fs) (hn : (assignEach es X.env).length = n := by rfl) (hst : (assignEach es X.env).findIdx? (·.1) = none := by rfl) : PG X (.Tuple es k pos) (tGR X.K (RC X.K) B (gT n fs)) := PG.imp (pg_tup hc h hn hst) fun v σ H Q h => by
  obtain ⟨Z, ρ, fp, d, ρ', S, dz, e, kk⟩ := h
  obtain ⟨b, row, rfl, hs, rfl⟩ := dz
  have e : (if Nat.beq (row.map PyData.int).length n = true then fs (row.map .int) ρ else none) = some ρ' := e
  split at e
  · rename_i c
    have dzs : DpZs X.K Z H (row.map V.int) (row.map .int) := scr_ints row
    exact ⟨b, _, rfl, hs H, by rw [dzs.length]; exact Nat.eq_of_beq_eq_true c, Z, ρ, fp, _, ρ', S, dzs, e, kk⟩
  · cases e
end

/-! ## what the head tells of a table -/
def rowB (K : PySem.W.Frag) (u : Value) (row : List Int) : Bool := match u with
  | .ref b => (match K.lookup b with
    | some ⟨.type c, none, .seq its _, _⟩ => decide (c = "tuple") && (Nat.ble its.size 1000 && He.relAll (row.map V.int) its.toList)
    | _ => false)
  | _ => false
def allRows (K : PySem.W.Frag) : List Value → List (List Int) → Bool
  | [], [] => true
  | u :: us, r :: rs => rowB K u r && allRows K us rs
  | _, _ => false
def tabB (K : PySem.W.Frag) (d : Addr) (q : Str × List (List Int)) : Bool := match PySem.W.nsIn K d q.1 with
  | some (some (.ref a)) => (match K.lookup a with
    | some ⟨.type c, none, .seq its _, _⟩ => decide (c = "tuple") && (Nat.ble its.size 1000 && allRows K its.toList q.2)
    | _ => false)
  | _ => false
theorem rowB_ok {K : PySem.W.Frag} {u : Value} {row : List Int} (h : rowB K u row = true) : ∃ b, u = .ref b ∧ ∀ H : Hp, SqT K H b (row.map V.int) := by
  unfold rowB at h
  split at h
  · rename_i b
    split at h
    · rename_i c its n sl e
      obtain ⟨h1, h⟩ := Bool.and_eq_true_iff.mp h
      obtain ⟨h2, h3⟩ := Bool.and_eq_true_iff.mp h
      have e1 := of_decide_eq_true h1
      have e2 : its.size ≤ sizeLine := by
        rw [sizeLine_eq]
        have := Nat.le_of_ble_eq_true h2
        omega
      exact ⟨b, rfl, fun H => .inr ⟨_, its, n, e, congrArg Value.type e1, rfl, e2, He.relAll_ok h3⟩⟩
    · cases h
  · cases h
theorem allRows_ok {K : PySem.W.Frag} : ∀ {us : List Value} {rows : List (List Int)}, allRows K us rows = true → ∃ bs : List Addr, us = bs.map Value.ref ∧ Paired (fun b row => ∀ H : Hp, SqT K H b (row.map V.int)) bs rows
  | [], [], _ => ⟨[], rfl, .nil⟩
  | [], _ :: _, h => by cases h
  | _ :: _, [], h => by cases h
  | u :: us, r :: rs, h => by
    obtain ⟨h1, h2⟩ := Bool.and_eq_true_iff.mp (show (rowB K u r && allRows K us rs) = true from h)
    obtain ⟨b, rfl, h3⟩ := rowB_ok h1
    obtain ⟨bs, rfl, h4⟩ := allRows_ok h2
    exact ⟨b :: bs, rfl, .cons h3 h4⟩
theorem tabB_ok {K : PySem.W.Frag} {d : Addr} {q : Str × List (List Int)} (h : tabB K d q = true) : ∃ a, PySem.W.nsIn K d q.1 = some (some (.ref a)) ∧ KRows K a q.2 := by
  unfold tabB at h
  split at h
  · rename_i a ea
    split at h
    · rename_i c its n sl e
      obtain ⟨h1, h⟩ := Bool.and_eq_true_iff.mp h
      obtain ⟨h2, h3⟩ := Bool.and_eq_true_iff.mp h
      have e1 := of_decide_eq_true h1
      have e2 : its.size ≤ sizeLine := by
        rw [sizeLine_eq]
        have := Nat.le_of_ble_eq_true h2
        omega
      obtain ⟨bs, e3, h4⟩ := allRows_ok h3
      refine ⟨a, ea, ⟨bs, fun H => .inr ⟨_, its, n, e, congrArg Value.type e1, rfl, e2, ?_⟩, h4⟩⟩
      rw [e3]
      exact vals_refs bs
    · cases h
  · cases h
def tabsOk (x : Str) (tab : List (Str × List (List Int))) (K : PySem.W.Frag) : Bool := tab.all (tabB K (He.ga K x))
theorem tabsOk_ok {x : Str} {tab : List (Str × List (List Int))} {K : PySem.W.Frag} {w : World} (h : tabsOk x tab K = true) (D : ∃ es n, KDict K w (He.ga K x) es n) : KTab K w (He.ga K x) tab :=
  ⟨D, fun q m => tabB_ok (List.all_eq_true.mp h q m)⟩
end DL

namespace DL
open PySem PySem.Spec PyProof.Rows L2

/-! ## defs by name -/
structure Fok (P : Program) (w : World) (K : PySem.W.Frag) (mg : Str → Option Value) (base : Heap) (k : Nat) (x : Str) (ps : List Str) (sp : Sp) : Prop where
  ex : ∃ fd, FnOk P w K mg base CX0 k (He.ga K x) fd ps sp ∧ Binds K fd ps []
  glo : mg x = some (.ref (He.ga K x))
  kp : PySem.W.keepIn K (.ref (He.ga K x)) = true
section
variable {X : Cx} {k j : Nat} {ps : List Str} {x y : Str} {p p0 pos : Pos} {e : Expr} {es : List Expr} {fl : FD} {fe : FDE} {n : Nat} {F : Fn} {G : FnB}
theorem d_callF (F' : Fok X.prog X.w X.K X.mg X.base k x ps (spP X.K n F)) (hr : Room j X.A) (hj : k ≤ j) (ha : DA X (e :: es) fl) (hg : Gl X x := by rfl)
    (hdb : (x == ("__debug__" : Str)) = false := by decide) (he : starEach (e :: es) X.env = (false, eval e X.env) :: starEach es X.env := by rfl) (hpl : (backTo pos (starEach es X.env)).any (·.1) = false := by rfl) :
    DP X (.Call (.Name x p) (e :: es) [] pos) (dCall n F fl) := by
  obtain ⟨fd, h1, h2⟩ := F'.ex
  exact d_call h1 (hr.mono hj) hg F'.glo F'.kp h2 ha hdb he hpl
theorem e_callF (F' : Fok X.prog X.w X.K X.mg X.base k x ps (spP X.K n F)) (hr : Room j X.A) (hj : k ≤ j) (ha : EA X (e :: es) fe) (hg : Gl X x := by rfl)
    (hdb : (x == ("__debug__" : Str)) = false := by decide) (he : starEach (e :: es) X.env = (false, eval e X.env) :: starEach es X.env := by rfl) (hpl : (backTo pos (starEach es X.env)).any (·.1) = false := by rfl) :
    DE X (.Call (.Name x p) (e :: es) [] pos) (eCall n F fe) := by
  obtain ⟨fd, h1, h2⟩ := F'.ex
  exact e_call h1 (hr.mono hj) hg F'.glo F'.kp h2 ha hdb he hpl
theorem e_lentF (i : Nat) (F' : Fok X.prog X.w X.K X.mg X.base k x ps (spB X.K n G)) (hr : Room j X.A) (hj : k ≤ j) (ha : EA X es fe) (hg : Gl X x := by rfl)
    (hN : X.N[i]? = some y := by rfl) (hv : Vis X.env.scope y := by first | exact Or.inl rfl | exact Or.inr (Or.inl rfl) | exact Or.inr (Or.inr rfl)) (hd : (y == ("__debug__" : Str)) = false := by decide)
    (hcd : (y == ("__classdict__" : Str)) = false := by decide) (hdb : (x == ("__debug__" : Str)) = false := by decide) (he : starEach (.Name y p0 :: es) X.env = (false, eval (.Name y p0) X.env) :: starEach es X.env := by rfl) (hpl : (backTo pos (starEach es X.env)).any (·.1) = false := by rfl) :
    DE X (.Call (.Name x p) (.Name y p0 :: es) [] pos) (eCallB i n G fe) := by
  obtain ⟨fd, h1, h2⟩ := F'.ex
  exact e_lent i h1 (hr.mono hj) hg F'.glo F'.kp h2 ha hN hv hd hcd hdb he hpl
end
/-- the law's promise -/
def spLaw (K : PySem.W.Frag) : Sp := fun vs H Q _ => ∃ (a : Addr) (ns : List Int), vs = [.ref a] ∧ SqL K H a (ns.map V.int) ∧ ns.length ≤ 63 ∧ ∀ H', Q (.bl true) H'
theorem law_of {P : Program} {w : World} {K : PySem.W.Frag} {mg : Str → Option Value} {base : Heap} {k : Nat} {f : Addr} {fd : FuncData} {ps : List Str} {G : FnB} (F : FnOk P w K mg base CX0 k f fd ps (spB K 0 G)) (h : ∀ ns : List Int, ns.length ≤ 63 → ∃ o', G (.scr ns) [] = some (.fr (.bool true), o')) : FnOk P w K mg base CX0 k f fd ps (spLaw K) :=
  F.imp fun vs H Q E ⟨a, ns, e, s, hl, q⟩ => by
    subst e
    obtain ⟨o', ho⟩ := h ns hl
    refine ⟨.ref a, [], fun b => b = a ∧ ∃ o, H b = some o, .scr ns, [], [], .fr (.bool true), o', rfl, fun b z => z.2, ?_, .nil, .nil, rfl, ho, fun Z' H' v g' gr r _ _ _ => ?_⟩
    · rcases s with s | s
      · refine .scr (.inl ⟨⟨rfl, ?_⟩, s⟩)
        rcases s with s | ⟨o, s⟩
        · exact ⟨_, s⟩
        · exact ⟨_, s⟩
      · exact .scr (.inr fun _ => .inr s)
    · rw [asB_rep r rfl]
      exact q H'
end DL

namespace DL
open PySem PySem.Spec PyProof.Rows L2
/-- turns enough for the source's cells -/
def fuelS (i : Nat) : Env → Nat := fun ρ => match ρ[i]? with
  | some (some (.src l _ _ _)) => l.length + 1
  | _ => 0
def isT : Option Ob → Bool
  | some (.fr (.bool true)) => true
  | _ => false
theorem isT_eq {o : Option Ob} (h : isT o = true) : o = some (.fr (.bool true)) := by
  unfold isT at h
  split at h
  · rfl
  · cases h
/-- a slot's object is never to be written again -/
def fFz (i : Nat) : FS := fun ρ => match ρ[i]? with
  | some (some o) => (fz o).bind fun d => some (.nx (ρ.set i (some (.fr d))))
  | _ => none
theorem fFz_eq (i : Nat) (f : FS) : fSeq (fFz i) f = fFrz i f := by
  funext ρ
  unfold fSeq fFz fFrz
  cases ρ[i]? with
  | none => rfl
  | some x =>
    cases x with
    | none => rfl
    | some o =>
      show ((fz o).bind _).bind _ = (fz o).bind _
      cases fz o <;> rfl
theorem s_fz {X : Cx} {B : List Nat} {sts : List Stmt} {f : FS} (i : Nat) (h : DSs X B sts f) : DSs X B sts (fSeq (fFz i) f) := by
  rw [fFz_eq]
  exact s_frz i h
/-- a list of one's own, to be grown: kept from its end -/
def fAcc (i : Nat) : FS := fun ρ => match ρ[i]? with
  | some (some (.lst l)) => some (.nx (ρ.set i (some (.acc l.length l.reverse))))
  | _ => none
theorem s_acc {X : Cx} {B : List Nat} {sts : List Stmt} {f : FS} (i : Nat) (h : DSs X B sts f) : DSs X B sts (fSeq (fAcc i) f) := PSs.imp h fun D σ H h => by
  obtain ⟨Z, ρ, fp, r, S, e, k⟩ := h
  obtain ⟨r1, e1, e⟩ := bind_some e
  unfold fAcc at e1
  split at e1
  · rename_i l el
    cases e1
    obtain ⟨v, g, h1, h2, ow, wr⟩ := S.write el
    obtain ⟨a, vs, rfl, rfl, h3, h4⟩ := lst_of h2
    obtain ⟨fp', S', _, f'⟩ := wr Z H (.acc l.length l.reverse) [a] [] .refl (.acc h3 (by rw [List.reverse_reverse]; exact h4) (by simp)) ow
    exact ⟨Z, _, fp', r, S', e, k.on f' .rfl⟩
  · cases e1
theorem fSeq_assoc (f g h : FS) : fSeq (fSeq f g) h = fSeq f (fSeq g h) := by
  funext ρ
  unfold fSeq
  cases f ρ with
  | none => rfl
  | some r => cases r <;> rfl
theorem fSeq_nil (f : FS) : fSeq f fNx = f := by
  funext ρ
  unfold fSeq fNx
  cases f ρ with
  | none => rfl
  | some r => cases r <;> rfl
end DL

namespace DL
open PySem PySem.Spec PyProof.Rows L2

/-! ## picks -/
/-- what a pick does to the source: some number below many, the source behind it -/
def Pk (F : FnB) : Prop := ∀ (l : List Int) (a b c many : Int), 1 ≤ many → many < 1073741824 → ∃ v l' a' b' c', F (.src l a b c) [.int many] = some (.fr (.int v), .src l' a' b' c') ∧ 0 ≤ v ∧ v < many
theorem lastI_some : ∀ {l : List Int}, l ≠ [] → ∃ m y, lastI l = some (m, y) ∧ m.length + 1 = l.length
  | [], h => absurd rfl h
  | [x], _ => ⟨[], x, rfl, rfl⟩
  | x :: y :: r, _ => by
    obtain ⟨m, z, e, hl⟩ := lastI_some (l := y :: r) (by simp)
    exact ⟨x :: m, z, by show ((lastI (y :: r)).bind fun p => some (x :: p.1, p.2)) = _; rw [e]; rfl, by simpa using hl⟩
/-- the loop that fills 'left' -/
def pkC : FB := bAnd (bO (o2 ltA (srcI 0 .left) (kO (.int 2)))) (bO (o2 gtA (oL (g1 lenA) (lCons (srcC 0) lNil)) (kO (.int 0))))
theorem pk_loop : ∀ (k : Nat) (l : List Int) (a b c : Int) (t : Env), l.length + 1 ≤ k → ∃ l' a', whL pkC (fSrcPop 0) k (some (.src l a b c) :: t) = some (.nx (some (.src l' a' b c) :: t))
  | 0, l, a, b, c, t, h => by omega
  | k + 1, l, a, b, c, t, h => by
    have c1 : pkC (some (.src l a b c) :: t) = if decide (a < 2) = true then some (decide ((0 : Int) < (((l.map PyData.int).length : Nat) : Int))) else some false := rfl
    by_cases h1 : a < 2
    · rw [decide_eq_true h1, if_pos rfl] at c1
      by_cases h2 : l = []
      · subst h2
        refine ⟨[], a, ?_⟩
        show ((pkC (some (.src [] a b c) :: t)).bind fun b' => _) = _
        rw [c1]
        rfl
      · obtain ⟨m, y, e, hl⟩ := lastI_some h2
        have h3 : (0 : Int) < (((l.map PyData.int).length : Nat) : Int) := by rw [List.length_map]; omega
        rw [decide_eq_true h3] at c1
        obtain ⟨l', a', ih⟩ := pk_loop k m y b c t (by omega)
        refine ⟨l', a', ?_⟩
        show ((pkC (some (.src l a b c) :: t)).bind fun b' => if b' = true then (fSrcPop 0 (some (.src l a b c) :: t)).bind fun r => match r with
          | .nx ρ2 => whL pkC (fSrcPop 0) k ρ2
          | .ct ρ2 => whL pkC (fSrcPop 0) k ρ2
          | .bk ρ2 => some (.nx ρ2)
          | .rt o ρ2 => some (.rt o ρ2)
          else some (.nx (some (.src l a b c) :: t))) = _
        have e2 : fSrcPop 0 (some (.src l a b c) :: t) = some (.nx (some (.src m y b c) :: t)) := by
          show ((lastI l).bind fun p => some (Out.nx ((some (Ob.src l a b c) :: t).set 0 (some (.src p.1 p.2 b c))))) = _
          rw [e]; rfl
        rw [c1, Option.bind_some, if_pos rfl, e2]
        exact ih
    · rw [decide_eq_false h1, if_neg Bool.false_ne_true] at c1
      refine ⟨l, a, ?_⟩
      show ((pkC (some (.src l a b c) :: t)).bind fun b' => _) = _
      rw [c1]
      rfl
def pick3 (A B C D E : Int) : FS := (fSeq (fIf (bO (o2 ltA (rdV 1) (kO (.int 2)))) (fRet (kO (.int 0))) fNx) (fSeq (fWh (fuelS 0) pkC (fSrcPop 0)) (fSeq (fSet 2 (srcI 0 .left)) (fSeq (fIf (bO (o2 gtA (rdV 2) (kO (.int 1)))) (fSeq (fSrcSet 0 .left (o2 divI (rdV 2) (rdV 1))) (fRet (o2 modI (oL (g1 intO) (lCons (rdV 2) lNil)) (rdV 1)))) fNx) (fSeq (fSrcSet 0 .turn (o2 addO (srcI 0 .turn) (kO (.int 1)))) (fSeq (fSet 3 (o2 modI (oL (g1 intO) (lCons (o2 addO (srcI 0 .mixed) (o2 mulO (srcI 0 .turn) (kO (.int A)))) lNil)) (kO (.int B)))) (fSeq (fSet 3 (o2 modI (oL (g1 intO) (lCons (o2 addO (o2 mulO (rdV 3) (rdV 3)) (o2 mulO (srcI 0 .turn) (kO (.int C)))) lNil)) (kO (.int D)))) (fSeq (fSrcSet 0 .mixed (frV 3)) (fRet (o2 modI (oL (g1 intO) (lCons (o2 divI (rdV 3) (kO (.int E))) lNil)) (rdV 1)))))))))))
theorem fSeq_nx {f g : FS} {ρ ρ' : Env} (h : f ρ = some (.nx ρ')) : fSeq f g ρ = g ρ' := by unfold fSeq; rw [h]; rfl
theorem fSeq_rt {f g : FS} {ρ ρ' : Env} {o : Ob} (h : f ρ = some (.rt o ρ')) : fSeq f g ρ = some (.rt o ρ') := by unfold fSeq; rw [h]; rfl
theorem fIf_t {c : FB} {f g : FS} {ρ : Env} (h : c ρ = some true) : fIf c f g ρ = f ρ := by unfold fIf; rw [h]; rfl
theorem fIf_f {c : FB} {f g : FS} {ρ : Env} (h : c ρ = some false) : fIf c f g ρ = g ρ := by unfold fIf; rw [h]; rfl
theorem mulO_r {i j : Int} (h : small64 j = true) : mulO (.fr (.int i)) (.fr (.int j)) = some (.fr (.int (i * j))) := by
  have e : mulI (.fr (.int i)) (.fr (.int j)) = some (.fr (.int (i * j))) := by
    show (if (small64 i || small64 j) = true then some (Ob.fr (.int (i * j))) else none) = _
    rw [h, Bool.or_true]; rfl
  unfold mulO
  rw [e]
theorem modI_ok {i j : Int} (h : 0 < j) : modI (.fr (.int i)) (.fr (.int j)) = some (.fr (.int (i % j))) := by
  show (if decide (0 < j) = true then some (Ob.fr (.int (i % j))) else none) = _
  rw [decide_eq_true h]; rfl
theorem divI_ok {i j : Int} (h : 0 < j) (h2 : j < 1073741824) : divI (.fr (.int i)) (.fr (.int j)) = some (.fr (.int (i / j))) := by
  show (if (decide (0 < j) && decide (j < 1073741824)) = true then some (Ob.fr (.int (i / j))) else none) = _
  rw [decide_eq_true h, decide_eq_true h2]; rfl
theorem sm64_mod {i j : Int} (h : 0 < j) (h2 : j ≤ 2 ^ 63) : small64 (i % j) = true := by
  have a := Int.emod_nonneg i (by omega : j ≠ 0)
  have b := Int.emod_lt_of_pos i h
  unfold small64
  rw [decide_eq_true (by omega), decide_eq_true (by omega)]
  rfl
theorem pick3_ok (A B C D E : Int) (hA : small64 A = true := by decide) (hB : 0 < B := by decide) (hB2 : B ≤ 2 ^ 63 := by decide) (hC : small64 C = true := by decide) (hD : 0 < D := by decide) (hE : 0 < E := by decide) (hE2 : E < 1073741824 := by decide) : Pk (fnOfB 4 (pick3 A B C D E)) := fun l a b c many h1 h2 => by
  have fin : ∀ {x : Int} {o' : Ob} {ρ' : Env}, pick3 A B C D E [some (.src l a b c), some (.fr (.int many)), none, none] = some (.rt (.fr (.int x)) (some o' :: ρ')) → fnOfB 4 (pick3 A B C D E) (.src l a b c) [.int many] = some (.fr (.int x), o') := fun h => by
    show ((pick3 A B C D E [some (.src l a b c), some (.fr (.int many)), none, none]).bind _) = _
    rw [h]; rfl
  by_cases m2 : many < 2
  · refine ⟨0, l, a, b, c, fin (ρ' := [some (.fr (.int many)), none, none]) ?_, by omega, by omega⟩
    unfold pick3
    refine fSeq_rt ((fIf_t ?_).trans rfl)
    show some (decide (many < 2)) = _
    rw [decide_eq_true m2]
  · have c1 : bO (o2 ltA (rdV 1) (kO (.int 2))) [some (.src l a b c), some (.fr (.int many)), none, none] = some false := by
      show some (decide (many < 2)) = _
      rw [decide_eq_false m2]
    obtain ⟨l', a', hw⟩ := pk_loop (l.length + 1) l a b c [some (.fr (.int many)), none, none] (Nat.le_refl _)
    have s1 := fun g => (fSeq_nx (g := g) ((fIf_f (f := fRet (kO (.int 0))) (g := fNx) c1).trans rfl))
    have s2 := fun g => fSeq_nx (f := fWh (fuelS 0) pkC (fSrcPop 0)) (g := g) (ρ := [some (.src l a b c), some (.fr (.int many)), none, none]) hw
    have s3 := fun g => fSeq_nx (f := fSet 2 (srcI 0 .left)) (g := g) (ρ := [some (.src l' a' b c), some (.fr (.int many)), none, none]) (ρ' := [some (.src l' a' b c), some (.fr (.int many)), some (.fr (.int a')), none]) rfl
    by_cases a1 : 1 < a'
    · refine ⟨a' % many, l', a' / many, b, c, fin (ρ' := [some (.fr (.int many)), some (.fr (.int a')), none]) ?_, Int.emod_nonneg _ (by omega), Int.emod_lt_of_pos _ (by omega)⟩
      unfold pick3
      rw [s1, s2, s3]
      refine fSeq_rt ((fIf_t ?_).trans ?_)
      · show some (decide (1 < a')) = _
        rw [decide_eq_true a1]
      · refine (fSeq_nx (ρ' := [some (.src l' (a' / many) b c), some (.fr (.int many)), some (.fr (.int a')), none]) ?_).trans ?_
        · show ((divI (.fr (.int a')) (.fr (.int many))).bind _) = _
          rw [divI_ok (by omega) h2]; rfl
        · show ((modI (.fr (.int a')) (.fr (.int many))).bind _) = _
          rw [modI_ok (by omega)]; rfl
    · have c2 : bO (o2 gtA (rdV 2) (kO (.int 1))) [some (.src l' a' b c), some (.fr (.int many)), some (.fr (.int a')), none] = some false := by
        show some (decide (1 < a')) = _
        rw [decide_eq_false a1]
      let t := c + 1
      let x := (b + t * A) % B
      let y := (x * x + t * C) % D
      have sx : small64 x = true := sm64_mod hB hB2
      refine ⟨y / E % many, l', a', y, t, fin (ρ' := [some (.fr (.int many)), some (.fr (.int a')), some (.fr (.int y))]) ?_, Int.emod_nonneg _ (by omega), Int.emod_lt_of_pos _ (by omega)⟩
      unfold pick3
      rw [s1, s2, s3]
      refine (fSeq_nx (ρ' := [some (.src l' a' b c), some (.fr (.int many)), some (.fr (.int a')), none]) ((fIf_f c2).trans rfl)).trans ?_
      refine (fSeq_nx (ρ' := [some (.src l' a' b t), some (.fr (.int many)), some (.fr (.int a')), none]) rfl).trans ?_
      refine (fSeq_nx (ρ' := [some (.src l' a' b t), some (.fr (.int many)), some (.fr (.int a')), some (.fr (.int x))]) ?_).trans ?_
      · show (((((mulO (.fr (.int t)) (.fr (.int A))).bind fun q => addO (.fr (.int b)) q).bind fun o => some [o]).bind (g1 intO)).bind fun q => modI q (.fr (.int B))).bind _ = _
        rw [mulO_r hA]
        show (modI (.fr (.int (b + t * A))) (.fr (.int B))).bind _ = _
        rw [modI_ok hB]; rfl
      refine (fSeq_nx (ρ' := [some (.src l' a' b t), some (.fr (.int many)), some (.fr (.int a')), some (.fr (.int y))]) ?_).trans ?_
      · show (((((mulO (.fr (.int x)) (.fr (.int x))).bind fun p => (mulO (.fr (.int t)) (.fr (.int C))).bind fun q => addO p q).bind fun o => some [o]).bind (g1 intO)).bind fun q => modI q (.fr (.int D))).bind _ = _
        rw [mulO_r sx, mulO_r hC]
        show (modI (.fr (.int (x * x + t * C))) (.fr (.int D))).bind _ = _
        rw [modI_ok hD]; rfl
      refine (fSeq_nx (ρ' := [some (.src l' a' y t), some (.fr (.int many)), some (.fr (.int a')), some (.fr (.int y))]) rfl).trans ?_
      show ((((divI (.fr (.int y)) (.fr (.int E))).bind fun o => some [o]).bind (g1 intO)).bind fun q => modI q (.fr (.int many))).bind _ = _
      rw [divI_ok hE hE2]
      show (modI (.fr (.int (y / E))) (.fr (.int many))).bind _ = _
      rw [modI_ok (by omega)]; rfl
/-! ### the source itself -/
def Sc (F : FnB) : Prop := ∀ ns : List Int, ns.length ≤ 63 → ∃ l a b c, F (.scr ns) [] = some (.src l a b c, .scr ns)
def mixF (B C D E : Int) : FS := fSet 1 (o2 modI (oL (g1 intO) (lCons (o2 addO (o2 addO (o2 mulO (rdV 1) (kO (.int B))) (o2 mulO (rdV 2) (kO (.int C)))) (kO (.int D))) lNil)) (kO (.int E)))
theorem mix_for {B C D E : Int} (hB : small64 B = true) (hC : small64 C = true) (hE : 0 < E) (s0 : Option Ob) (t : Env) : ∀ (l : List Int) (m : Int) (x : Option Ob), ∃ m' x', forL (gN 2) (mixF B C D E) (l.map .int) (s0 :: some (.fr (.int m)) :: x :: t) = some (.nx (s0 :: some (.fr (.int m')) :: x' :: t))
  | [], m, x => ⟨m, x, rfl⟩
  | i :: l, m, x => by
    obtain ⟨m', x', ih⟩ := mix_for hB hC hE s0 t l ((m * B + i * C + D) % E) (some (.fr (.int i)))
    refine ⟨m', x', ?_⟩
    have e1 : mixF B C D E (s0 :: some (.fr (.int m)) :: some (.fr (.int i)) :: t) = some (.nx (s0 :: some (.fr (.int ((m * B + i * C + D) % E))) :: some (.fr (.int i)) :: t)) := by
      show (((((((mulO (.fr (.int m)) (.fr (.int B))).bind fun p => (mulO (.fr (.int i)) (.fr (.int C))).bind fun q => addO p q).bind fun p => addO p (.fr (.int D))).bind fun o => some [o]).bind (g1 intO)).bind fun q => modI q (.fr (.int E))).bind _) = _
      rw [mulO_r hB, mulO_r hC]
      show (modI (.fr (.int (m * B + i * C + D))) (.fr (.int E))).bind _ = _
      rw [modI_ok hE]; rfl
    show (((gN 2) (.int i) (s0 :: some (.fr (.int m)) :: x :: t)).bind fun ρ1 => (mixF B C D E ρ1).bind fun r => match r with
      | .nx ρ2 => forL (gN 2) (mixF B C D E) (l.map .int) ρ2
      | .ct ρ2 => forL (gN 2) (mixF B C D E) (l.map .int) ρ2
      | .bk ρ2 => some (.nx ρ2)
      | .rt o ρ2 => some (.rt o ρ2)) = _
    show ((mixF B C D E (s0 :: some (.fr (.int m)) :: some (.fr (.int i)) :: t)).bind fun r => _) = _
    rw [e1]
    exact ih
def absI (i : Int) : Int := if i < 0 then -i else i
theorem abs_lc (s0 s1 : Option Ob) (x : Option Ob) (t : Env) : ∀ l : List Int, lcL (gN 2) bYes (oL (g1 absO) (lCons (rdV 2) lNil)) (l.map .int) (s0 :: s1 :: x :: t) = some (l.map fun i => .int (absI i))
  | [] => rfl
  | i :: l => by
    have ih := abs_lc s0 s1 x t l
    show (lcL (gN 2) bYes (oL (g1 absO) (lCons (rdV 2) lNil)) (l.map .int) (s0 :: s1 :: x :: t)).bind (fun r => some (.int (absI i) :: r)) = _
    rw [ih]; rfl
theorem ints_map : ∀ l : List Int, intsOf (l.map PyData.int) = some l
  | [] => rfl
  | i :: l => by
    show ((intsOf (l.map PyData.int)).bind fun r => some (i :: r)) = _
    rw [ints_map l]; rfl
theorem short63 {α : Type} {l : List α} (f : α → PyData) (h : l.length ≤ 63) : short (l.map f) = true := by
  unfold short
  rw [List.length_map]
  exact Nat.ble_eq_true_of_le (by omega)
def src3 (A B C D E L : Int) : FS := fSeq (fSet 1 (kO (.int A))) (fSeq (fFor (iScr 0) (gN 2) (mixF B C D E)) (fRet (dSrc (o1 revO (oLc 3 [2] (iScr 0) (gN 2) bYes (oL (g1 absO) (lCons (rdV 2) lNil)))) (kO (.int L)) (frV 1) (kO (.int 0)))))
theorem src3_ok (A B C D E L : Int) (hB : small64 B = true := by decide) (hC : small64 C = true := by decide) (hE : 0 < E := by decide) : Sc (fnOfB 3 (src3 A B C D E L)) := fun ns hl => by
  obtain ⟨m, x, hf⟩ := mix_for hB hC hE (some (.scr ns)) [] ns A none
  refine ⟨(ns.map absI).reverse, L, m, 0, ?_⟩
  have e1 : oLc 3 [2] (iScr 0) (gN 2) bYes (oL (g1 absO) (lCons (rdV 2) lNil)) [some (.scr ns), some (.fr (.int m)), x] = some (.lst (ns.map fun i => .int (absI i))) := by
    show (if short (ns.map .int) = true then (lcL (gN 2) bYes (oL (g1 absO) (lCons (rdV 2) lNil)) (ns.map .int) [some (.scr ns), some (.fr (.int m)), none]).bind fun l => some (Ob.lst l) else none) = _
    rw [if_pos (short63 _ hl), abs_lc]; rfl
  have e2 : dSrc (o1 revO (oLc 3 [2] (iScr 0) (gN 2) bYes (oL (g1 absO) (lCons (rdV 2) lNil)))) (kO (.int L)) (frV 1) (kO (.int 0)) [some (.scr ns), some (.fr (.int m)), x] = some (.src (ns.map absI).reverse L m 0) := by
    show (((oLc 3 [2] (iScr 0) (gN 2) bYes (oL (g1 absO) (lCons (rdV 2) lNil)) [some (.scr ns), some (.fr (.int m)), x]).bind revO).bind _) = _
    rw [e1]
    show ((intsOf (ns.map fun i => PyData.int (absI i)).reverse).bind fun l => some (Ob.src l L m 0)) = _
    rw [show (ns.map fun i => PyData.int (absI i)).reverse = (ns.map absI).reverse.map .int by rw [List.map_reverse, List.map_map]; rfl, ints_map]
    rfl
  have e3 : src3 A B C D E L [some (.scr ns), none, none] = some (.rt (.src (ns.map absI).reverse L m 0) [some (.scr ns), some (.fr (.int m)), x]) := by
    unfold src3
    refine (fSeq_nx (ρ' := [some (.scr ns), some (.fr (.int A)), none]) rfl).trans ?_
    refine (fSeq_nx (ρ' := [some (.scr ns), some (.fr (.int m)), x]) hf).trans ?_
    unfold fRet
    rw [e2]; rfl
  show (src3 A B C D E L [some (.scr ns), none, none]).bind _ = _
  rw [e3]; rfl
end DL

namespace DL
open PySem PySem.Spec PyProof.Rows L2

/-! ## running a def that picks, part by part -/
def IsS (o : Ob) : Prop := ∃ l a b c, o = .src l a b c
/-- it ends with True, the source in slot 0 -/
def Tr (f : FS) (ρ : Env) : Prop := ∃ s' t, f ρ = some (.rt (.fr (.bool true)) (some s' :: t)) ∧ IsS s'
def WE (f : FE) (ρ : Env) (Q : Ob → Env → Prop) : Prop := ∃ o ρ', f ρ = some (o, ρ') ∧ Q o ρ'
def nxW (js : List Nat) (f : FS) (ρ : Env) : Option Env := (f ρ).bind fun r => match r with
  | .nx ρ1 => some (wipeE ρ1 js)
  | _ => none
def ret0 (f : FS) (ρ : Env) : Option Ob := (f ρ).bind fun r => match r with
  | .rt (.fr (.bool true)) ρ' => (ρ'[0]?).join
  | _ => none
def fillE : Env → List (Nat × Option Ob) → Env
  | ρ, [] => ρ
  | ρ, p :: r => fillE (ρ.set p.1 p.2) r
theorem wipe_fill (ρ : Env) : ∀ js : List Nat, ∃ xs : List (Option Ob), xs.length = js.length ∧ fillE (wipeE ρ js) (js.zip xs) = ρ
  | [] => ⟨[], rfl, rfl⟩
  | j :: js => by
    obtain ⟨xs, h1, h2⟩ := wipe_fill ρ js
    refine ⟨((wipeE ρ js)[j]?).join :: xs, by simp [h1], ?_⟩
    show fillE (((wipeE ρ js).set j none).set j ((wipeE ρ js)[j]?).join) (js.zip xs) = ρ
    have e : ((wipeE ρ js).set j none).set j ((wipeE ρ js)[j]?).join = wipeE ρ js := by
      rw [List.set_set]
      by_cases h : j < (wipeE ρ js).length
      · rw [List.getElem?_eq_getElem h]
        exact List.set_getElem_self h
      · rw [List.set_eq_of_length_le (Nat.le_of_not_lt h)]
    rw [e, h2]
theorem tr_seq {f g : FS} {ρ ρ2 : Env} (js : List Nat) (h : nxW js f ρ = some ρ2) (k : ∀ xs : List (Option Ob), xs.length = js.length → Tr g (fillE ρ2 (js.zip xs))) : Tr (fSeq f g) ρ := by
  obtain ⟨r, e, h⟩ := bind_some h
  cases r with
  | nx ρ1 =>
    cases h
    obtain ⟨xs, h1, h2⟩ := wipe_fill ρ1 js
    have q := k xs h1
    rw [h2] at q
    obtain ⟨s', t, e2, hs⟩ := q
    exact ⟨s', t, (fSeq_nx e).trans e2, hs⟩
  | _ => cases h
theorem tr_ret {f : FS} {s : Ob} {t : Env} (hs : IsS s) (h : ret0 f (some s :: t) = some s) : Tr f (some s :: t) := by
  obtain ⟨r, e, h⟩ := bind_some h
  split at h
  · rename_i ρ'
    cases ρ' with
    | nil => cases h
    | cons x t' =>
      obtain rfl : x = some s := h
      exact ⟨s, t', e, hs⟩
  · cases h
theorem tr_setE {i : Nat} {e : FE} {g : FS} {ρ : Env} (h : WE e ρ fun o ρ' => Tr g (ρ'.set i (some o))) : Tr (fSeq (fSetE i e) g) ρ := by
  obtain ⟨o, ρ', e1, s', t, e2, hs⟩ := h
  have q : fSetE i e ρ = some (.nx (ρ'.set i (some o))) := by unfold fSetE; rw [e1]; rfl
  exact ⟨s', t, (fSeq_nx q).trans e2, hs⟩
theorem tr_tgE {e : FE} {ga : FT} {g : FS} {ρ : Env} (h : WE e ρ fun o ρ' => ∃ d ρ2, fz o = some d ∧ ga d ρ' = some ρ2 ∧ Tr g ρ2) : Tr (fSeq (fTgE e ga) g) ρ := by
  obtain ⟨o, ρ', e1, d, ρ2, ed, e3, s', t, e2, hs⟩ := h
  have q : fTgE e ga ρ = some (.nx ρ2) := by
    unfold fTgE
    rw [e1, Option.bind_some, ed, Option.bind_some, e3]; rfl
  exact ⟨s', t, (fSeq_nx q).trans e2, hs⟩
theorem we_pick {F : FnB} (hP : Pk F) {fl : FDE} {s : Ob} {t : Env} {many : Int} {Q : Ob → Env → Prop} (hs : IsS s) (ha : fl (some s :: t) = some ([.int many], some s :: t)) (h1 : 1 ≤ many) (h2 : many < 1073741824) (h : ∀ v s', 0 ≤ v → v < many → IsS s' → Q (.fr (.int v)) (some s' :: t)) : WE (eCallB 0 1 F fl) (some s :: t) Q := by
  obtain ⟨l, a, b, c, rfl⟩ := hs
  obtain ⟨v, l', a', b', c', e, v1, v2⟩ := hP l a b c many h1 h2
  refine ⟨.fr (.int v), some (.src l' a' b' c') :: t, ?_, h v _ v1 v2 ⟨_, _, _, _, rfl⟩⟩
  show ((fl (some (.src l a b c) :: t)).bind _) = _
  rw [ha]
  show ((F (.src l a b c) [.int many]).bind _) = _
  rw [e]; rfl
theorem we_add {c : Int} {e : FE} {ρ : Env} {Q : Ob → Env → Prop} (h : WE e ρ fun o ρ' => ∃ v, o = .fr (.int v) ∧ Q (.fr (.int (c + v))) ρ') : WE (e2O addO (eP (kO (.int c))) e) ρ Q := by
  obtain ⟨o, ρ', e1, v, rfl, q⟩ := h
  refine ⟨_, ρ', ?_, q⟩
  show ((e ρ).bind _) = _
  rw [e1]; rfl
theorem tr_F {m : Nat} {b : FS} {s : Ob} {ds : List PyData} (h : Tr b (startB m s ds)) : ∃ s', fnOfB m b s ds = some (.fr (.bool true), s') ∧ IsS s' := by
  obtain ⟨s', t, e, hs⟩ := h
  refine ⟨s', ?_, hs⟩
  unfold fnOfB
  rw [e]; rfl
theorem IsS.mk (l : List Int) (a b c : Int) : IsS (.src l a b c) := ⟨l, a, b, c, rfl⟩
end DL

namespace DL
open PySem PySem.Spec PyProof.Rows L2

/-! ## a small logic for what writes -/
def WA (f : FDE) (ρ : Env) (Q : List PyData → Env → Prop) : Prop := ∃ ds ρ', f ρ = some (ds, ρ') ∧ Q ds ρ'
def WT (f : FBE) (ρ : Env) (Q : Bool → Env → Prop) : Prop := ∃ b ρ', f ρ = some (b, ρ') ∧ Q b ρ'
def WS (f : FS) (ρ : Env) (Q : Out → Prop) : Prop := ∃ r, f ρ = some r ∧ Q r
section
variable {ρ ρ1 : Env} {f g h : FE} {fa : FDE} {t u : FBE} {a b : FS}
theorem WE.mono {Q Q' : Ob → Env → Prop} (h : WE f ρ Q) (k : ∀ o ρ, Q o ρ → Q' o ρ) : WE f ρ Q' := let ⟨o, ρ', e, q⟩ := h; ⟨o, ρ', e, k _ _ q⟩
theorem we_p {p : F1} {o : Ob} {Q : Ob → Env → Prop} (e : p ρ = some o) (q : Q o ρ) : WE (eP p) ρ Q := ⟨o, ρ, by unfold eP; rw [e]; rfl, q⟩
theorem we_call {n : Nat} {F : Fn} {Q : Ob → Env → Prop} (h : WA fa ρ fun ds ρ' => ds.length = n ∧ ∃ o, F ds = some o ∧ Q o ρ') : WE (eCall n F fa) ρ Q := by
  obtain ⟨ds, ρ', e, hn, o, eo, q⟩ := h
  refine ⟨o, ρ', ?_, q⟩
  unfold eCall
  rw [e, Option.bind_some, if_pos (by rw [hn]; exact Nat.beq_refl n), eo]
  rfl
theorem we_callB {i n : Nat} {G : FnB} {Q : Ob → Env → Prop} (h0 : ∃ o, ρ[i]? = some (some o)) (h : WA fa ρ fun ds ρ' => ds.length = n ∧ ∃ s r s', ρ'[i]? = some (some s) ∧ G s ds = some (r, s') ∧ Q r (ρ'.set i (some s'))) : WE (eCallB i n G fa) ρ Q := by
  obtain ⟨o, h0⟩ := h0
  obtain ⟨ds, ρ', e, hn, s, r, s', es, eg, q⟩ := h
  refine ⟨r, ρ'.set i (some s'), ?_, q⟩
  unfold eCallB
  rw [h0]
  show ((fa ρ).bind _) = _
  rw [e, Option.bind_some, if_pos (by rw [hn]; exact Nat.beq_refl n), es]
  show ((G s ds).bind _) = _
  rw [eg]
  rfl
theorem wa_nil {Q : List PyData → Env → Prop} (q : Q [] ρ) : WA eaNil ρ Q := ⟨[], ρ, rfl, q⟩
theorem wa_cons {Q : List PyData → Env → Prop} (h : WE f ρ fun o ρ' => ∃ d, fz o = some d ∧ WA fa ρ' fun ds ρ'' => Q (d :: ds) ρ'') : WA (eaCons f fa) ρ Q := by
  obtain ⟨o, ρ', e, d, ed, ds, ρ'', e2, q⟩ := h
  refine ⟨d :: ds, ρ'', ?_, q⟩
  unfold eaCons
  rw [e, Option.bind_some, ed, Option.bind_some, e2]
  rfl
theorem wa_p {p : F1} {d : PyData} {Q : List PyData → Env → Prop} (e : p ρ = some (.fr d)) (h : WA fa ρ fun ds ρ'' => Q (d :: ds) ρ'') : WA (eaCons (eP p) fa) ρ Q := wa_cons (we_p e ⟨d, rfl, h⟩)
theorem we_if {Q : Ob → Env → Prop} (h : WT t ρ fun b ρ' => if b = true then WE f ρ' Q else WE g ρ' Q) : WE (eIf t f g) ρ Q := by
  obtain ⟨b, ρ', e, q⟩ := h
  cases b with
  | true =>
    rw [if_pos rfl] at q
    obtain ⟨o, ρ2, e2, q⟩ := q
    exact ⟨o, ρ2, by unfold eIf; rw [e, Option.bind_some, if_pos rfl]; exact e2, q⟩
  | false =>
    rw [if_neg Bool.false_ne_true] at q
    obtain ⟨o, ρ2, e2, q⟩ := q
    exact ⟨o, ρ2, by unfold eIf; rw [e, Option.bind_some, if_neg Bool.false_ne_true]; exact e2, q⟩
theorem we_2 {k : Ob → Ob → Option Ob} {Q : Ob → Env → Prop} (h : WE f ρ fun o ρ' => ∃ d, fz o = some d ∧ WE g ρ' fun o' ρ'' => ∃ d', fz o' = some d' ∧ ∃ r, k (.fr d) (.fr d') = some r ∧ Q r ρ'') : WE (e2O k f g) ρ Q := by
  obtain ⟨o, ρ', e, d, ed, o', ρ'', e2, d', ed', r, er, q⟩ := h
  refine ⟨r, ρ'', ?_, q⟩
  unfold e2O
  rw [e, Option.bind_some, ed, Option.bind_some, e2, Option.bind_some, ed', Option.bind_some, er]
  rfl
theorem we_and {Q : Ob → Env → Prop} (h : WE f ρ fun o ρ' => ∃ b, asB o = some b ∧ if b = true then WE g ρ' Q else Q (.fr (.bool false)) ρ') : WE (eAndV f g) ρ Q := by
  obtain ⟨o, ρ', e, b, eb, q⟩ := h
  cases b with
  | true =>
    rw [if_pos rfl] at q
    obtain ⟨o2, ρ2, e2, q⟩ := q
    exact ⟨o2, ρ2, by unfold eAndV; rw [e, Option.bind_some, eb, Option.bind_some, if_pos rfl]; exact e2, q⟩
  | false =>
    rw [if_neg Bool.false_ne_true] at q
    exact ⟨_, ρ', by unfold eAndV; rw [e, Option.bind_some, eb, Option.bind_some, if_neg Bool.false_ne_true], q⟩
theorem wt_p {p : FB} {b : Bool} {Q : Bool → Env → Prop} (e : p ρ = some b) (q : Q b ρ) : WT (ePB p) ρ Q := ⟨b, ρ, by unfold ePB; rw [e]; rfl, q⟩
theorem wt_b {Q : Bool → Env → Prop} (h : WE f ρ fun o ρ' => ∃ b, asB o = some b ∧ Q b ρ') : WT (eBO f) ρ Q := by
  obtain ⟨o, ρ', e, b, eb, q⟩ := h
  refine ⟨b, ρ', ?_, q⟩
  unfold eBO
  rw [e, Option.bind_some, eb]
  rfl
theorem wt_not {Q : Bool → Env → Prop} (h : WT t ρ fun b ρ' => Q (!b) ρ') : WT (eNot t) ρ Q := by
  obtain ⟨b, ρ', e, q⟩ := h
  exact ⟨!b, ρ', by unfold eNot; rw [e]; rfl, q⟩
theorem wt_and {Q : Bool → Env → Prop} (h : WT t ρ fun b ρ' => if b = true then WT u ρ' Q else Q false ρ') : WT (eAnd t u) ρ Q := by
  obtain ⟨b, ρ', e, q⟩ := h
  cases b with
  | true =>
    rw [if_pos rfl] at q
    obtain ⟨o, ρ2, e2, q⟩ := q
    exact ⟨o, ρ2, by unfold eAnd; rw [e, Option.bind_some, if_pos rfl]; exact e2, q⟩
  | false =>
    rw [if_neg Bool.false_ne_true] at q
    exact ⟨false, ρ', by unfold eAnd; rw [e, Option.bind_some, if_neg Bool.false_ne_true], q⟩
theorem wt_or {Q : Bool → Env → Prop} (h : WT t ρ fun b ρ' => if b = true then Q true ρ' else WT u ρ' Q) : WT (eOr t u) ρ Q := by
  obtain ⟨b, ρ', e, q⟩ := h
  cases b with
  | true =>
    rw [if_pos rfl] at q
    exact ⟨true, ρ', by unfold eOr; rw [e, Option.bind_some, if_pos rfl], q⟩
  | false =>
    rw [if_neg Bool.false_ne_true] at q
    obtain ⟨o, ρ2, e2, q⟩ := q
    exact ⟨o, ρ2, by unfold eOr; rw [e, Option.bind_some, if_neg Bool.false_ne_true]; exact e2, q⟩
/-! statements -/
theorem ws_seq {Q : Out → Prop} (h : WS a ρ fun r => ∃ ρ', r = .nx ρ' ∧ WS b ρ' Q) : WS (fSeq a b) ρ Q := by
  obtain ⟨r, e, ρ', rfl, r2, e2, q⟩ := h
  exact ⟨r2, (fSeq_nx e).trans e2, q⟩
theorem ws_nx {Q : Out → Prop} (e : a ρ = some (.nx ρ1)) (h : WS b ρ1 Q) : WS (fSeq a b) ρ Q := ws_seq ⟨_, e, _, rfl, h⟩
theorem ws_set {i : Nat} {Q : Out → Prop} (h : WE f ρ fun o ρ' => WS b (ρ'.set i (some o)) Q) : WS (fSeq (fSetE i f) b) ρ Q := by
  obtain ⟨o, ρ', e, q⟩ := h
  exact ws_nx (by unfold fSetE; rw [e]; rfl) q
theorem ws_ifF {x y : FS} {Q : Out → Prop} (h : WT t ρ fun b ρ' => b = false ∧ WS y ρ' Q) : WS (fIfE t x y) ρ Q := by
  obtain ⟨b, ρ', e, rfl, r, e2, q⟩ := h
  exact ⟨r, by unfold fIfE; rw [e, Option.bind_some, if_neg Bool.false_ne_true]; exact e2, q⟩
theorem ws_ret {Q : Out → Prop} (h : WE f ρ fun o ρ' => Q (.rt o ρ')) : WS (fRetE f) ρ Q := by
  obtain ⟨o, ρ', e, q⟩ := h
  exact ⟨_, by unfold fRetE; rw [e]; rfl, q⟩
end
theorem law_end {m : Nat} {b : FS} {ns : List Int} (h : WS b (startB m (.scr ns) []) fun r => ∃ o t, r = .rt (.fr (.bool true)) (some o :: t)) : ∃ o', fnOfB m b (.scr ns) [] = some (.fr (.bool true), o') := by
  obtain ⟨r, e, o, t, rfl⟩ := h
  exact ⟨o, by unfold fnOfB; rw [e]; rfl⟩
/-- a pick from the source in slot 1 -/
theorem we_pick1 {F : FnB} (hP : Pk F) {fl : FDE} {x : Option Ob} {s : Ob} {t : Env} {many : Int} {Q : Ob → Env → Prop} (hs : IsS s) (ha : fl (x :: some s :: t) = some ([.int many], x :: some s :: t)) (h1 : 1 ≤ many) (h2 : many < 1073741824) (h : ∀ v s', 0 ≤ v → v < many → IsS s' → Q (.fr (.int v)) (x :: some s' :: t)) : WE (eCallB 1 1 F fl) (x :: some s :: t) Q := by
  obtain ⟨l, a, b, c, rfl⟩ := hs
  obtain ⟨v, l', a', b', c', e, v1, v2⟩ := hP l a b c many h1 h2
  exact we_callB ⟨_, rfl⟩ ⟨[.int many], _, ha, rfl, _, _, _, rfl, e, h v _ v1 v2 ⟨_, _, _, _, rfl⟩⟩
/-- a def's own check, the source in slot 1 -/
theorem we_good1 {G : FnB} {n : Nat} {fl : FDE} {x : Option Ob} {s : Ob} {t : Env} {ds : List PyData} {Q : Ob → Env → Prop} (ha : fl (x :: some s :: t) = some (ds, x :: some s :: t)) (hn : ds.length = n) (hG : ∃ s', G s ds = some (.fr (.bool true), s') ∧ IsS s') (h : ∀ s', IsS s' → Q (.fr (.bool true)) (x :: some s' :: t)) : WE (eCallB 1 n G fl) (x :: some s :: t) Q := by
  obtain ⟨s', e, hs⟩ := hG
  exact we_callB ⟨_, rfl⟩ ⟨ds, _, ha, hn, _, _, _, rfl, e, h s' hs⟩
end DL

namespace DL
open PySem PySem.Spec PyProof.Rows L2

/-! ## a list of new lists: [[..] for ..], each of them one's own -/
def llL (ga : FT) (te : F1) : List PyData → Env → Option (List (List PyData))
  | [], _ => some []
  | d :: ds, ρ => (ga d ρ).bind fun ρ1 => (te ρ1).bind fun o => match o with
    | .lst x => (llL ga te ds ρ).bind fun r => some (x :: r)
    | _ => none
def oLL (n : Nat) (vs : List Nat) (fi : FD) (ga : FT) (te : F1) : F1 := fun ρ => if Nat.beq ρ.length n then (fi ρ).bind fun ds => if short ds then (llL ga te ds (wipeE ρ vs)).bind fun l => some (.ll l) else none else none
section
variable {X : Cx} {K : PySem.W.Frag} {pos : Pos} {fi : FD} {ga : FT} {te : F1} {n : Nat} {vs : List Nat}
theorem LLs.snoc {Z : Zs} {H : Hp} {b : Addr} {ws : List V} {x : List PyData} {bs : List Addr} {ls : List (List PyData)} (h : LLs K Z H bs ls) (e : H b = some (.lst ws)) (d : DpZs K Z H ws x) : LLs K Z H (bs ++ [b]) (ls ++ [x]) := by
  induction h with
  | nil => exact .cons e d .nil
  | cons e2 d2 _ ih => exact .cons e2 d2 ih
theorem LLs.other {Z : Zs} {H : Hp} {D : Addr} {o : HO} (nz : ¬ Z D) (nt : ∀ xs, H D ≠ some (.tup xs)) {bs : List Addr} {ls : List (List PyData)} (h : LLs K Z H bs ls) (nd : D ∉ bs) : LLs K Z (L2.upd H D o) bs ls := by
  induction h with
  | nil => exact .nil
  | cons e d _ ih => exact .cons (by rw [upd_ne (fun q => nd (by rw [← q]; exact List.mem_cons_self))]; exact e) (d.upd nz nt) (ih fun m => nd (List.mem_cons_of_mem _ m))
theorem runLL {σ : L2.St} {H : Hp} {Q : VK} (h : tP K (oLL n vs fi ga te) σ H Q) : tLc (tI K fi) (tG K (offs n vs) ga) (tT K bYes) (tP K te) vs σ H Q := by
  obtain ⟨Z, ρ, fp, o, S, e, k⟩ := h
  have e : (if Nat.beq ρ.length n = true then (fi ρ).bind fun ds => if short ds = true then (llL ga te ds (wipeE ρ vs)).bind fun l => some (.ll l) else none else none) = some o := e
  split at e
  · rename_i hn
    have hn : ρ.length = n := Nat.eq_of_beq_eq_true hn
    obtain ⟨ds, ed, e⟩ := bind_some e
    split at e
    · rename_i hs
      have hs := short_ok hs
      obtain ⟨l, el, e⟩ := bind_some e
      cases e
      refine ⟨Z, ρ, fp, ds, S, ed, fun Z1 H1 J it a1 D nD => ?_⟩
      have S1 := S.still a1
      have za1 := S1.za
      have nzD : ¬ Z1 D := fun z => by
        obtain ⟨o, q⟩ := za1 D z
        rw [nD] at q; cases q
      have own0 : Own Z1 (upd H1 D (.lst [])) [D] := ⟨by simp, fun a m => by rw [List.mem_singleton.mp m]; exact nzD, fun a m => by rw [List.mem_singleton.mp m]; exact ⟨_, upd_same, trivial⟩⟩
      refine ⟨fun i m H2 => ∃ Z2 bs ls rest, m = ds.length - i ∧ i ≤ ds.length ∧ H2 D = some (.lst (bs.map V.ref)) ∧ LLs K Z2 H2 bs ls ∧ Own Z2 H2 (D :: bs) ∧ bs.length ≤ i ∧ Fr H1 [] Z1 H2 (D :: bs) Z2 ∧ llL ga te (ds.drop i) (wipeE ρ vs) = some rest ∧ ls ++ rest = l,
        ⟨_, Z1, [], [], l, rfl, Nat.zero_le _, upd_same, .nil, own0, Nat.le_refl _, upd_fr nD Z1 (fun _ z => z) (fun _ z => .inl z) (fun b m => by simpa using m), el, rfl⟩, ?_⟩
      rintro i m H2 ⟨Z2, bs, ls, rest, rfl, hi, hD, dv, ow2, hlen, a2, e2, el2⟩
      have a2' : Fr H1 [] Z1 H2 [] Z2 := a2.less fun _ m => (nomatch m)
      have S2 := S1.still a2'
      obtain ⟨go, stop⟩ := it i Z2 H2 ⟨a2.zup, fun b u z e => a2.same b u e (by simp), fun b xs e => a2.same b _ e (by simp)⟩ S2.za
      by_cases hlt : i < ds.length
      · obtain ⟨g1, g2⟩ := go ds[i] (List.getElem?_eq_getElem hlt)
        rw [List.drop_eq_getElem_cons hlt] at e2
        obtain ⟨ρ3, e3, e2⟩ := bind_some (show ((ga ds[i] (wipeE ρ vs)).bind fun ρ1 => (te ρ1).bind fun o => match o with | .lst x => (llL ga te (ds.drop (i + 1)) (wipeE ρ vs)).bind fun r => some (x :: r) | _ => none) = some rest from e2)
        obtain ⟨o6, e6, e2⟩ := bind_some e2
        refine .inr ⟨g1, fun H' => ∃ Z2 bs ls rest, i + 1 ≤ ds.length ∧ H' D = some (.lst (bs.map V.ref)) ∧ LLs K Z2 H' bs ls ∧ Own Z2 H' (D :: bs) ∧ bs.length ≤ i + 1 ∧ Fr H1 [] Z1 H' (D :: bs) Z2 ∧ llL ga te (ds.drop (i + 1)) (wipeE ρ vs) = some rest ∧ ls ++ rest = l, fun H' ⟨Z2, bs, ls, rest, q⟩ => ⟨_, by omega, Z2, bs, ls, rest, rfl, q⟩, fun x H3 y => ?_⟩
        obtain ⟨Z3, dx, a3⟩ := g2 x H3 y
        have S3 := S2.still a3
        obtain ⟨fpw, Sw, _⟩ := S3.wipe vs
        refine ⟨Z3, _, fpw, ds[i], ρ3, Sw, dx, e3, fun σ4 fp4 S4 s4 k4 => ⟨wipe_back (by rw [S.er.len]; exact hn) k4, Z3, ρ3, fp4, true, S4, rfl, fun Z5 H5 a5 => ?_⟩⟩
        have a35 := a3.trans a5
        refine L2.iteT ?_
        cases o6 with
        | lst x6 =>
          obtain ⟨r6, er6, e2⟩ := bind_some (show ((llL ga te (ds.drop (i + 1)) (wipeE ρ vs)).bind fun r => some (x6 :: r)) = some rest from e2)
          cases e2
          refine ⟨Z5, ρ3, fp4, .lst x6, S4.still a5, e6, fun Z6 H6 v6 g6 r6' o6' a6 => ?_⟩
          obtain ⟨b, ws, rfl, rfl, hb, dw⟩ := lst_of r6'
          have a26 : Fr H2 [] Z2 H6 [b] Z6 := a35.trans a6
          have ow6 : Own Z6 H6 ((D :: bs) ++ [b]) := ow2.fresh a26 o6'
          have hD6 : H6 D = some (.lst (bs.map V.ref)) := a26.same _ _ hD (by simp)
          have dv6 : LLs K Z6 H6 bs ls := dv.keep a26 (fun _ _ _ m => (nomatch m)) (fun _ _ m => (nomatch m)) fun _ _ m => (nomatch m)
          have nzD6 : ¬ Z6 D := ow6.nz D (by simp)
          have ntD6 : ∀ xs, H6 D ≠ some (.tup xs) := fun xs q => by rw [hD6] at q; cases q
          have ndD : D ∉ bs ++ [b] := by
            have q := ow6.nd
            rw [List.cons_append, List.nodup_cons] at q
            exact q.1
          have fr6 : Fr H1 [] Z1 H6 (D :: (bs ++ [b])) Z6 := by
            have q := a26.aside (g := D :: bs)
            rw [List.append_nil] at q
            exact a2.trans q
          refine ⟨bs.map V.ref, hD6, by rw [List.length_map]; omega, Z6, bs ++ [b], ls ++ [x6], r6, hlt, ?_, ?_, ?_, ?_, ?_, er6, by rw [← el2]; simp⟩
          · rw [List.map_append]; exact upd_same
          · exact (dv6.snoc hb dw).other nzD6 ntD6 ndD
          · exact Own.upd1 (by simpa using ow6) trivial
          · rw [List.length_append]; simp; omega
          · exact fr6.trans (Fr.upd1 ⟨_, hD6⟩ (by simp))
        | _ => cases e2
      · have hl : ds.length ≤ i := Nat.le_of_not_lt hlt
        rw [List.drop_eq_nil_of_le hl] at e2
        cases e2
        rw [List.append_nil] at el2
        subst el2
        exact .inl ⟨stop hl, k Z2 H2 (.ref D) (D :: bs) (.ll hD dv) ow2 (a1.trans a2)⟩
    · cases e
  · cases e
theorem d_ll {elt tg iter : Expr} {scope : Scope} (own : List (Str × Nat)) {n : Nat} (hc : X.calm = true) (hN : X.N.Nodup) (hi : DI X tg iter fi) (ok : BlkOk X.N X.env.scope scope own)
    (hg : BlkAll X scope fun X => DG X (offs n (own.map (·.2))) tg ga) (he : BlkAll X scope fun X => DP X elt te) (hs : ∀ x, foldedSetIterable iter X.env x = pure x := by intro _; rfl) :
    DP X (.ListComp elt [⟨tg, iter, [], 0⟩] scope pos) (oLL n (own.map (·.2)) fi ga te) := PE.imp (pe_lc hc hN hi ok hg (fun _ _ _ _ _ => ts_nil) he hs) fun _ _ _ h => runLL h
theorem s_setLL (i : Nat) {B : List Nat} {y : Str} {py spos : Pos} {elt tg iter : Expr} {scope : Scope} (own : List (Str × Nat)) {n : Nat} (hc : X.calm = true) (hN : X.N.Nodup) (hi : DI X tg iter fi) (ok : BlkOk X.N X.env.scope scope own)
    (hg : BlkAll X scope fun X => DG X (offs n (own.map (·.2))) tg ga) (he : BlkAll X scope fun X => DP X elt te) (hsw : swapsWith (.ListComp elt [⟨tg, iter, [], 0⟩] scope pos) (some (.Name y py)) spos.line X.env = pure true)
    (hy : X.N[i]? = some y := by rfl) (hyl : X.env.scope.names.lookup y = some .local := by rfl) (hB : i ∉ B := by decide) (hs : ∀ x, foldedSetIterable iter X.env x = pure x := by intro _; rfl) :
    DS X B (.Assign [.Name y py] (.ListComp elt [⟨tg, iter, [], 0⟩] scope pos) spos) (fSet i (oLL n (own.map (·.2)) fi ga te)) := PS.imp (ps_setLc hc hN hy hyl hsw hi ok hg (fun _ _ _ _ _ => ts_nil) he hs) fun D σ H h => runSet (fun _ _ _ h => runLL h) hB h
end
end DL

namespace DL
open PySem PySem.Spec PyProof.Rows L2

/-! ## cells = x['cells'], and the loop that pops from it -/
def aliL : Nat → List Int → Int → Option (List Int × Int)
  | 0, _, _ => none
  | k + 1, l, a => if decide (a < 2) && !l.isEmpty then (lastI l).bind fun p => aliL k p.1 p.2 else some (l, a)
def fAlias (i j : Nat) : FS := fun ρ => match ρ[i]? with
  | some (some (.src l a b c)) => (aliL (l.length + 1) l a).bind fun p => if Nat.blt j ρ.length then some (.nx ((ρ.set i (some (.src p.1 p.2 b c))).set j none)) else none
  | _ => none
section
variable {X : Cx} {B : List Nat} {x y : Str} {f : FS} {sts : List Stmt}
/-- the state within the loop: slot j holds the cells of slot i -/
def AliS (K : PySem.W.Frag) (Z0 : Zs) (H0 : Hp) (fp0 : List Addr) (σ0 : L2.St) (B : List Nat) (i j : Nat) (ρ : Env) (l : List Int) (a b d : Int) (σ : L2.St) (H : Hp) : Prop :=
  ∃ Z fp q c, Stt K Z H σ (((ρ.set i (some (.src l a b d)))).set j none) fp ∧ σ[i]? = some (some (.ref q)) ∧ σ[j]? = some (some (.ref c)) ∧ H q = some (.dK (srcT c a b d)) ∧ H c = some (.lst (l.map V.int)) ∧ Fr H0 fp0 Z0 H fp Z ∧ KpB B σ0 σ
theorem ER.unset' {K : PySem.W.Frag} {Z : Zs} {H : Hp} {σ : L2.St} {ρ : Env} {fp : List Addr} (h : ER K Z H σ ρ fp) (x : Option V) : ∀ i : Nat, ∃ fp', ER K Z H (σ.set i x) (ρ.set i none) fp' ∧ (∀ b ∈ fp', b ∈ fp) ∧ (fp.Nodup → fp'.Nodup) := by
  induction h with
  | nil => intro i; exact ⟨[], .nil, fun _ m => m, fun h => h⟩
  | @no y σ ρ fp h ih =>
    intro i
    cases i with
    | zero => exact ⟨fp, .no h, fun _ m => m, fun h => h⟩
    | succ i =>
      obtain ⟨fp', h1, h2, h3⟩ := ih i
      exact ⟨fp', .no h1, h2, h3⟩
  | @one v o g σ ρ fp r h ih =>
    intro i
    cases i with
    | zero => exact ⟨fp, .no h, fun _ m => List.mem_append_right _ m, fun h => (List.nodup_append.mp h).2.1⟩
    | succ i =>
      obtain ⟨fp', h1, h2, h3⟩ := ih i
      refine ⟨g ++ fp', .one r h1, fun b m => ?_, fun nd => ?_⟩
      · rcases List.mem_append.mp m with m | m
        · exact List.mem_append_left _ m
        · exact List.mem_append_right _ (h2 b m)
      · obtain ⟨n1, n2, n3⟩ := List.nodup_append.mp nd
        exact List.nodup_append.mpr ⟨n1, h3 n2, fun a m b m' => n3 a m b (h2 b m')⟩
theorem s_aliasPop {p1 p2 p3 p4 p5 p6 p7 p8 p9 p10 p11 p12 p13 p14 p15 p16 p17 p18 p19 p20 p21 p22 p23 pw : Pos} {k1 k2 k3 k4 k5 : Nat} (i j : Nat) (hu : X.A.units + 64 < cLine) (hND : X.N.Nodup) (hp : PassesOwn (model X.prog X.w) X.A X.env X.xe) (hrest : DSs X B sts f)
    (hm : X.mg (PySem.Str.ofString "len") = none)
    (hN : X.N[i]? = some x := by rfl) (hN2 : X.N[j]? = some y := by rfl) (hij : i ≠ j := by decide) (hB : j ∉ B := by decide)
    (hv : Vis X.env.scope x := by first | exact Or.inl rfl | exact Or.inr (Or.inl rfl) | exact Or.inr (Or.inr rfl)) (hv2 : Vis X.env.scope y := by first | exact Or.inl rfl | exact Or.inr (Or.inl rfl) | exact Or.inr (Or.inr rfl)) (hloc : Loc X.env.scope y := by first | exact .inl rfl | exact .inr rfl)
    (hfn : X.fn y = true ∨ X.env.scope.names.lookup y = some .local := by first | exact .inl rfl | exact .inr rfl) (hgl : Gl X (PySem.Str.ofString "len") := by rfl)
    (hd : (x == ("__debug__" : Str)) = false := by decide) (hd2 : (y == ("__debug__" : Str)) = false := by decide) (hcd : (x == ("__classdict__" : Str)) = false := by decide) (hcd2 : (y == ("__classdict__" : Str)) = false := by decide)
    (hs1 : NoSl (.Constant (.str (PySem.Str.ofString "cells")) k1 p2) := by intro _ _; rfl) (hs2 : NoSl (.Constant (.str (PySem.Str.ofString "left")) k2 p6) := by intro _ _; rfl)
    (hsw1 : swapsWith (.Subscript (.Name x p1) (.Constant (.str (PySem.Str.ofString "cells")) k1 p2) p3) (some (.Name y p4)) p5.line X.env = pure false := by rfl)
    (he : starEach [.Name y p14] X.env = (false, eval (.Name y p14) X.env) :: starEach [] X.env := by rfl) (hpl : (backTo p15 (starEach [] X.env)).any (·.1) = false := by rfl)
    (hm1 : behindInMarks .Lt (.Constant (.int 2) k3 p9) = false := by rfl) (hm2 : behindInMarks .Gt (.Constant (.int 0) k4 p16) = false := by rfl)
    (hbase : attributeBase (.Name y p19) "pop" X.env (eval (.Name y p19) X.env) = eval (.Name y p19) X.env := by rfl) (hln : (p20.endLine == p21.line) = true := by rfl)
    (hsw : swapsWith (.Call (.Attribute (.Name y p19) "pop" p20) [] [] p21) (some (.Subscript (.Name x p11) (.Constant (.str (PySem.Str.ofString "left")) k5 p12) p13)) p22.line X.env = pure false := by rfl) (hs3 : NoSl (.Constant (.str (PySem.Str.ofString "left")) k5 p12) := by intro _ _; rfl) :
    DSs X B (.Assign [.Name y p4] (.Subscript (.Name x p1) (.Constant (.str (PySem.Str.ofString "cells")) k1 p2) p3) p5 ::
      .While (.BoolOp .And [.Compare (.Subscript (.Name x p7) (.Constant (.str (PySem.Str.ofString "left")) k2 p6) p8) [.Lt] [.Constant (.int 2) k3 p9] p10, .Compare (.Call (.Name (PySem.Str.ofString "len") p17) [.Name y p14] [] p15) [.Gt] [.Constant (.int 0) k4 p16] p18] pw)
        [.Assign [.Subscript (.Name x p11) (.Constant (.str (PySem.Str.ofString "left")) k5 p12) p13] (.Call (.Attribute (.Name y p19) "pop" p20) [] [] p21) p22] [] p23 :: sts) (fSeq (fAlias i j) f) :=
  PSs.imp (pss_cons (ps_set hND hN2 hloc (pe_dget (by omega) (pe_var hN hv hd hcd) pe_str hs1) hsw1 hfn)
    (pss_cons (ps_while hp (PW.pt (pw_and (pt_cmpR (op_ltA hu) (pe_dget (by omega) (pe_var hN hv hd hcd) pe_str hs2) pe_int hm1) (pw_and1 (pt_cmpR (op_gtA hu) (pe_callB op_lenA hgl hm rfl (pa_cons (pe_var hN2 hv2 hd2 hcd2) pa_nil he) (by decide) (by decide) he hpl) pe_int hm2))))
      (pss_one (ps_dput (by omega) (pe_var hN hv hd hcd) pe_str (pe_bm0 PySem.F.plainAttrs_list PySem.F.slot_list_pop PySem.F.type_list_pop mt_pop (pe_var hN2 hv2 hd2 hcd2) (hbase := hbase) (hline := hln)) hsw))) hrest)) fun D σ H h => by
    obtain ⟨Z, ρ, fp, r, S, e, k⟩ := h
    obtain ⟨r1, e1, e⟩ := bind_some e
    unfold fAlias at e1
    split at e1
    · rename_i l a b d el
      obtain ⟨⟨l', a'⟩, ea, e1⟩ := bind_some e1
      obtain ⟨hjl, e1⟩ : Nat.blt j ρ.length = true ∧ r1 = .nx ((ρ.set i (some (.src l' a' b d))).set j none) := by
        split at e1
        · rename_i hc; cases e1; exact ⟨hc, rfl⟩
        · cases e1
      subst e1
      obtain ⟨v, g, h1, h2, _⟩ := S.er.get el
      obtain ⟨q, c, rfl, rfl, h3, h4⟩ := src_of h2
      have hjl : j < σ.length := by rw [S.er.len]; exact Nat.le_of_ble_eq_true hjl
      have hρ : ρ.set i (some (.src l a b d)) = ρ := by
        obtain ⟨w, q⟩ := List.getElem?_eq_some_iff.mp el
        rw [← q]; exact List.set_getElem_self w
      obtain ⟨fp1, er1, s1, n1⟩ := S.er.unset' (some (.ref c)) j
      have S1 : Stt X.K Z H (σ.set j (some (.ref c))) (ρ.set j none) fp1 := ⟨er1, S.own.sub s1 (n1 S.own.nd), S.za⟩
      refine ⟨.ref q, h1, q, _, rfl, srcT_dgetC h3, ?_⟩
      refine ⟨fun m σ2 H2 => ∃ l a, AliS X.K Z H fp σ B i j ρ l a b d σ2 H2 ∧ aliL m l a = some (l', a'), ⟨l.length + 1, l, a, ⟨Z, fp1, q, c, by rw [hρ]; exact S1, by rw [List.getElem?_set_ne (Ne.symm hij)]; exact h1, List.getElem?_set_self hjl, h3, h4, Fr.refl.less s1, kpB_set hB⟩, ea⟩, ?_⟩
      rintro m σ2 H2 ⟨l2, a2, ⟨Z2, fp2, q2, c2, S2, i1, i2, i3, i4, f2, kb⟩, e2⟩
      cases m with
      | zero => cases e2
      | succ m =>
        refine ⟨.ref q2, i1, q2, _, rfl, srcT_dget i3 .left, ?_⟩
        refine .inl ⟨a2, 2, rfl, rfl, _, rfl, ?_⟩
        have e2 : (if (decide (a2 < 2) && !l2.isEmpty) = true then (lastI l2).bind fun p => aliL m p.1 p.2 else some (l2, a2)) = some (l', a') := e2
        have stop : l2 = l' → a2 = a' → D.nx = D.nx → tS X.K B f D σ2 H2 := fun h1 h2 _ => by
          subst h1 h2
          exact ⟨Z2, _, fp2, r, S2, e, k.on f2 kb⟩
        cases hc : decide (a2 < 2) with
        | false =>
          rw [hc] at e2
          cases e2
          exact L2.iteF (L2.iteF (stop rfl rfl rfl))
        | true =>
          refine L2.iteT ⟨.ref c2, i2, .inr (.inr ⟨c2, _, rfl, .inl (.of i4), .inl ⟨_, 0, rfl, rfl, _, rfl, ?_⟩⟩)⟩
          rw [hc, Bool.true_and] at e2
          cases l2 with
          | nil =>
            cases e2
            exact L2.iteF (stop rfl rfl rfl)
          | cons y0 l3 =>
            have hlen : decide ((0 : Int) < (((y0 :: l3).map V.int).length : Nat)) = true := decide_eq_true (by rw [List.length_map, List.length_cons]; omega)
            rw [hlen]
            refine L2.iteT ⟨fun σ' H' => ∃ l a, AliS X.K Z H fp σ B i j ρ l a b d σ' H' ∧ aliL m l a = some (l', a'), fun σ' H' q => ⟨m, Nat.lt_succ_self _, q⟩, ?_⟩
            obtain ⟨⟨m2, y⟩, em, e2⟩ := bind_some (show ((lastI (y0 :: l3)).bind fun p => aliL m p.1 p.2) = some (l', a') from e2)
            obtain ⟨l1, l2'⟩ := map_last em
            have ne : c2 ≠ q2 := ne_of i4 i3 (fun z => nomatch z)
            refine ⟨.ref c2, i2, .inl ⟨rfl, _, .of i4⟩, c2, _, .int y, rfl, rfl, i4, l1, .ref q2, i1, q2, ?_⟩
            rw [l2']
            have h5 : upd H2 c2 (.lst (m2.map V.int)) q2 = some (.dK (srcT c2 a2 b d)) := by rw [upd_ne (Ne.symm ne)]; exact i3
            have el2 : ((ρ.set i (some (.src (y0 :: l3) a2 b d))).set j none)[i]? = some (some (.src (y0 :: l3) a2 b d)) := by
              rw [List.getElem?_set_ne (Ne.symm hij)]
              exact List.getElem?_set_self (List.getElem?_eq_some_iff.mp el).1
            obtain ⟨fp', S3, f3⟩ := pop_src S2 el2 i1 i3 em
            refine ⟨_, rfl, DPut.k (k := .inr SK.left.key) h5 (show 4 < sizeLine by decide), m2, y, ⟨Z2, fp', q2, c2, ?_, i1, i2, ?_, ?_, f2.trans f3, kb⟩, e2⟩
            · rw [List.set_comm _ _ (Ne.symm hij), List.set_set] at S3
              exact S3
            · exact upd_same.trans (by rw [srcT_put])
            · rw [upd_ne ne]; exact upd_same
    · cases e1
end
end DL
namespace DL
open PySem PySem.Spec PyProof.Rows L2
/-! ## isinstance(x, T), T a built-in type -/
inductive Ty5 | int | bool | str | tuple | list | dict
def Ty5.s : Ty5 → String
  | .int => "int"
  | .bool => "bool"
  | .str => "str"
  | .tuple => "tuple"
  | .list => "list"
  | .dict => "dict"
def isiD : Ty5 → PyData → Bool
  | .int, .int _ => true
  | .int, .bool _ => true
  | .bool, .bool _ => true
  | .str, .str _ => true
  | .tuple, .tuple _ => true
  | .list, .list _ => true
  | _, _ => false
def isiO (T : Ty5) (x : Ob) : Option Ob := (asData x).map fun d => fB (isiD T d)
section
variable {X : Cx} {e : Expr} {fa : F1} {pos p q : Pos}
theorem kit_non (T : Ty5) : kitB "NoneType" T.s = some (isiD T .none) := by cases T <;> decide +kernel
theorem kit_bool (T : Ty5) (b : Bool) : kitB "bool" T.s = some (isiD T (.bool b)) := (by cases T <;> decide +kernel : kitB "bool" T.s = some (isiD T (.bool true))).trans (by cases T <;> rfl)
theorem kit_int (T : Ty5) (b : Int) : kitB "int" T.s = some (isiD T (.int b)) := (by cases T <;> decide +kernel : kitB "int" T.s = some (isiD T (.int 0))).trans (by cases T <;> rfl)
theorem kit_str (T : Ty5) (b : Str) : kitB "str" T.s = some (isiD T (.str b)) := (by cases T <;> decide +kernel : kitB "str" T.s = some (isiD T (.str (PySem.Str.ofString "")))).trans (by cases T <;> rfl)
theorem kit_list (T : Ty5) (b : List PyData) : kitB "list" T.s = some (isiD T (.list b)) := (by cases T <;> decide +kernel : kitB "list" T.s = some (isiD T (.list []))).trans (by cases T <;> rfl)
theorem kit_tuple (T : Ty5) (b : List PyData) : kitB "tuple" T.s = some (isiD T (.tuple b)) := (by cases T <;> decide +kernel : kitB "tuple" T.s = some (isiD T (.tuple []))).trans (by cases T <;> rfl)
theorem isi_ty {K : PySem.W.Frag} {Z : Zs} {H : Hp} {v : V} {o : Ob} {d : PyData} {g : List Addr} (T : Ty5) (r : RepO K Z H v o g) (h : asData o = some d) : ∃ t, TyX K H v t ∧ PySem.W.kitOne K t (.type T.s) = some (isiD T d) := by
  cases r with
  | fr z =>
    cases h
    cases z with
    | non => exact ⟨_, .base .non, kit_ty (kit_non T)⟩
    | bl b => exact ⟨_, .base (.bl b), kit_ty (kit_bool T b)⟩
    | int i => exact ⟨_, .base (.int i), kit_ty (kit_int T i)⟩
    | str x => exact ⟨_, .base (.str x), kit_ty (kit_str T x)⟩
    | lst _ s _ => exact ⟨_, .base (.lst s), kit_ty (kit_list T _)⟩
    | tup s _ => exact ⟨_, .base (.tup s), kit_ty (kit_tuple T _)⟩
  | lst s _ => cases h; exact ⟨_, .base (.lst s), kit_ty (kit_list T _)⟩
  | acc s _ _ => cases h; exact ⟨_, .base (.lst s), kit_ty (kit_list T _)⟩
  | _ => cases h
theorem d_isi (T : Ty5) {x : Str} (hx : x = PySem.Str.ofString T.s) (ha : PR X e fa) (hm : X.mg (PySem.Str.ofString "isinstance") = none) (hm2 : X.mg x = none) (hg : Gl X (PySem.Str.ofString "isinstance") := by rfl) (hg2 : Gl X x := by rfl) (hd : (x == ("__debug__" : Str)) = false := by decide) (hnn : x ≠ "__name__" := by decide) (hv : bootBuiltins x = some (.type T.s) := by rfl)
    (he : starEach [e, .Name x q] X.env = (false, eval e X.env) :: starEach [.Name x q] X.env := by rfl) (he2 : starEach [.Name x q] X.env = (false, eval (.Name x q) X.env) :: starEach [] X.env := by rfl) (hpl : (backTo pos (starEach [.Name x q] X.env)).any (·.1) = false := by rfl) :
    DP X (.Call (.Name (PySem.Str.ofString "isinstance") p) [e, .Name x q] [] pos) (o1 (isiO T) fa) :=
  PE.imp (pe_callB call_isi hg hm rfl (pa_cons ha (pa_cons (pe_bltn (v := .ty T.s) hg2 hm2 hv rfl hnn hd) pa_nil he2) he) (by decide) (by decide) he hpl) fun σ H Q h => by
    obtain ⟨Z, ρ, fp, o, S, e, k⟩ := h
    obtain ⟨x, ex, e⟩ := bind_some e
    obtain ⟨d, ed, rfl⟩ := Option.map_eq_some_iff.mp (show (asData x).map (fun d => fB (isiD T d)) = some o from e)
    refine ⟨Z, ρ, fp, x, S, ex, fun Z1 H1 v g r a => ?_⟩
    obtain ⟨t, ht, hk⟩ := isi_ty T r ed
    exact ⟨v, .ty T.s, t, .type T.s, isiD T d, rfl, .ty _, ht, hk, k Z1 H1 _ [] (.fr (.bl _)) .nil (a.less fun _ m => (nomatch m))⟩
end
end DL

namespace DL
open PySem PySem.Spec PyProof.Rows L2
/-! ## tuple(range(a, b, c)) -/
section
variable {X : Cx} {a b c e : Expr} {fa fb fc : F1} {p pos : Pos}
def PRg3 (X : Cx) (e : Expr) (t : L2.St → Hp → (Int → Int → Int → Hp → Prop) → Prop) : Prop :=
  ∀ (pins : List (Addr × Obj)) (s : Shared) (σ : L2.St) (H : Hp) (Q : Int → Int → Int → Hp → Prop), Inv X pins σ H s → t σ H Q →
    wpAny (model X.prog X.w) X.A (eval e X.env) (fun x s' => ∃ r a b c t u v H', x = .ref r ∧ IsRange s'.heap r a b c t u v ∧ Inv X pins σ H' s' ∧ Q a b c H') X.xe s
def tR3 (ta tb tc : TE) : L2.St → Hp → (Int → Int → Int → Hp → Prop) → Prop := fun σ H Q => ta σ H fun x H1 => tb σ H1 fun y H2 => tc σ H2 fun z H3 => ∃ i j k, x = .int i ∧ y = .int j ∧ z = .int k ∧ k ≠ 0 ∧ k.natAbs < 1073741824 ∧ Q i j k H3
theorem prg_3 {ta tb tc : TE} (hg : Gl X "range") (hm : X.mg "range" = none) (ha : PE X a ta) (hb : PE X b tb) (hcc : PE X c tc) (na : starEach [a, b, c] X.env = (false, eval a X.env) :: starEach [b, c] X.env) (nb : starEach [b, c] X.env = (false, eval b X.env) :: starEach [c] X.env) (nc : starEach [c] X.env = (false, eval c X.env) :: starEach [] X.env)
    (hp : (backTo pos (starEach [b, c] X.env)).any (·.1) = false) : PRg3 X (.Call (.Name "range" p) [a, b, c] [] pos) (tR3 ta tb tc) := by
  intro pins s σ H Q I h
  refine Call_ (ld_blt I hg hm boot_range (PyProof.Rows.callWith_type1 (args_cons (thn (ha.run pins s σ H _ I h) fun v s1 ⟨x, H1, I1, r1, q1⟩ => ?_) na) na hp))
  show wpAny _ _ (spliced (backTo pos (starEach [b, c] X.env))) _ _ _
  refine args_cons (thn (hb.run pins s1 σ H1 _ I1 q1) fun u s2 ⟨y, H2, I2, r2, q2⟩ => one_arg hcc I2 q2 (fun w s3 z H3 I3 r3 q => ?_) nc) nb
  obtain ⟨i, j, k, rfl, rfl, rfl, hk, hk2, q⟩ := q
  obtain ⟨t, rfl⟩ := r1
  obtain ⟨t', rfl⟩ := r2
  obtain ⟨t'', rfl⟩ := r3
  refine call_range_3 hk ⟨_, i, j, k, _, _, _, H3, rfl, IsRange.new _ _ _ _ _ _ _, I3.kept fun b u e => Heap.get?_push_of_some _ e, q⟩ ?_
  exact Or.inl (PyProof.noPylong_small (by omega))
def rg3 (f g h : F1) : Env → Option (Int × Int × Int) := fun ρ => (f ρ).bind fun x => (g ρ).bind fun y => (h ρ).bind fun z => (asI x).bind fun i => (asI y).bind fun j => (asI z).bind fun c => if !decide (c = 0) && (decide (c.natAbs < 1073741824) && Builtin.Range.small i j c) && Nat.ble (Builtin.Range.rangeSize i j c).toNat 16777216 then some (i, j, c) else none
def tRg3 (K : PySem.W.Frag) (r : Env → Option (Int × Int × Int)) : L2.St → Hp → (Int → Int → Int → Hp → Prop) → Prop := fun σ H Q => ∃ Z ρ fp i j c, Stt K Z H σ ρ fp ∧ r ρ = some (i, j, c) ∧ ∀ Z' H', Fr H [] Z H' [] Z' → (Builtin.Range.small i j c = true ∧ (Builtin.Range.rangeSize i j c).toNat ≤ 16777216) → Q i j c H'
abbrev RG3 (X : Cx) (e : Expr) (r : Env → Option (Int × Int × Int)) : Prop := PRg3 X e (tRg3 X.K r)
theorem rg_3 (hg : Gl X "range") (hm : X.mg "range" = none) (ha : PR X a fa) (hb : PR X b fb) (hcc : PR X c fc) (na : starEach [a, b, c] X.env = (false, eval a X.env) :: starEach [b, c] X.env := by rfl) (nb : starEach [b, c] X.env = (false, eval b X.env) :: starEach [c] X.env := by rfl) (nc : starEach [c] X.env = (false, eval c X.env) :: starEach [] X.env := by rfl)
    (hp : (backTo pos (starEach [b, c] X.env)).any (·.1) = false := by rfl) : RG3 X (.Call (.Name "range" p) [a, b, c] [] pos) (rg3 fa fb fc) := fun pins s σ H Q I h => by
  obtain ⟨Z, ρ, fp, i, j, k, S, e, kk⟩ := h
  obtain ⟨x, ex, e⟩ := bind_some e
  obtain ⟨y, ey, e⟩ := bind_some e
  obtain ⟨z, ez, e⟩ := bind_some e
  obtain ⟨i', ei, e⟩ := bind_some e
  obtain ⟨j', ej, e⟩ := bind_some e
  obtain ⟨k', ek, e⟩ := bind_some e
  split at e
  · rename_i hc0
    cases e
    obtain ⟨h1, h4⟩ := Bool.and_eq_true_iff.mp hc0
    obtain ⟨h1, h3⟩ := Bool.and_eq_true_iff.mp h1
    obtain ⟨h2, h3⟩ := Bool.and_eq_true_iff.mp h3
    have hc : k ≠ 0 := fun q => by rw [decide_eq_true q] at h1; cases h1
    exact prg_3 hg hm ha hb hcc na nb nc hp pins s σ H Q I ⟨Z, ρ, fp, x, S, ex, fun Z1 H1 v1 g1 r1 a1 => ⟨Z1, ρ, fp, y, S.still a1, ey, fun Z2 H2 v2 g2 r2 a2 => ⟨Z2, ρ, fp, z, (S.still a1).still a2, ez, fun Z3 H3 v3 g3 r3 a3 => ⟨i, j, k, asI_rep r1 ei, asI_rep r2 ej, asI_rep r3 ek, hc, of_decide_eq_true h2, kk Z3 H3 ((a1.trans a2).trans a3) ⟨h3, Nat.le_of_ble_eq_true h4⟩⟩⟩⟩⟩
  · cases e
/-- the ints -/
def rgC (a c : Int) (n : Nat) : List V := (List.range n).map fun i => V.int (a + (i : Nat) * c)
theorem rgC_rep {K : PySem.W.Frag} {Z : Zs} {H : Hp} (c : Int) : ∀ (n : Nat) (a : Int), DpZs K Z H (rgC a c n) (rangeC c a n)
  | 0, _ => .nil
  | n + 1, a => by
    unfold rgC
    rw [List.range_succ_eq_map, List.map_cons, List.map_map]
    have e0 : a + ((0 : Nat) : Int) * c = a := by simp
    rw [e0]
    refine .cons (.int a) ?_
    have q := rgC_rep (K := K) (Z := Z) (H := H) c n (a + c)
    unfold rgC at q
    have e : (List.range n).map ((fun i : Nat => V.int (a + (i : Nat) * c)) ∘ Nat.succ) = (List.range n).map fun i => V.int (a + c + (i : Nat) * c) := by
      refine List.map_congr_left fun i _ => ?_
      show V.int (a + ((i + 1 : Nat) : Int) * c) = V.int (a + c + (i : Int) * c)
      congr 1
      rw [Int.natCast_succ, Int.add_mul, Int.one_mul]
      omega
    rw [e]
    exact q
theorem vals_rgC {a c : Int} {n : Nat} {acc : Array Value} (h : ItemsOf (fun i v => ∃ t, v = .int (a + i * c) t) acc n) : Vals (rgC a c n) acc.toList := by
  have e : acc.toList.length = n := by rw [Array.length_toList]; exact h.1
  unfold rgC
  rw [← e]
  refine vals_of_get acc.toList _ fun j u hj => ?_
  obtain ⟨t, rfl⟩ := h.2 j u (by rw [← hj, Array.getElem?_toList])
  exact ⟨t, rfl⟩
theorem rgC_length (a c : Int) (n : Nat) : (rgC a c n).length = n := by unfold rgC; rw [List.length_map, List.length_range]
def dTRg3 (r : Env → Option (Int × Int × Int)) : F1 := fun ρ => (r ρ).bind fun q => some (.fr (.tuple (rangeC q.2.2 q.1 (Builtin.Range.rangeSize q.1 q.2.1 q.2.2).toNat)))
theorem size_nn (a b c : Int) : 0 ≤ Builtin.Range.rangeSize a b c := by
  unfold Builtin.Range.rangeSize
  have d : ∀ x y : Int, 0 ≤ x → 0 ≤ y → 0 ≤ x / y := fun x y h1 h2 => Int.ediv_nonneg h1 h2
  split
  · split
    · have := d (b - a - 1) c (by omega) (by omega); omega
    · omega
  · split
    · have := d (a - b - 1) (-c) (by omega) (by omega); omega
    · omega
theorem d_tupRg3 {r : Env → Option (Int × Int × Int)} (hc : X.calm = true) (hg : Gl X "tuple") (hm : X.mg "tuple" = none) (he : RG3 X e r) (na : starEach [e] X.env = (false, eval e X.env) :: starEach [] X.env := by rfl) : DP X (.Call (.Name "tuple" p) [e] [] pos) (dTRg3 r) := by
  refine ⟨fun pins s σ H Q I h => ?_⟩
  obtain ⟨Z, ρ, fp, o, S, e1, k⟩ := h
  obtain ⟨⟨i, j, c⟩, ei, e1⟩ := bind_some e1
  cases e1
  refine Call_ (ld_blt I hg hm boot_tuple (PyProof.Rows.callWith_type1 (args_cons (thn (he pins s σ H (fun a b c H' => (Builtin.Range.small a b c = true ∧ (Builtin.Range.rangeSize a b c).toNat ≤ 16777216) ∧ ∀ q, H' q = none → Q (.ref q) (upd H' q (.tup (rgC a c (Builtin.Range.rangeSize a b c).toNat)))) I ⟨Z, ρ, fp, i, j, c, S, ei, fun Z1 H1 a1 ok => ⟨ok, ?_⟩⟩) fun x s1 ⟨r, a, b, c, t, u, v, H1, ex, hr, I1, ok, q⟩ => args_nil ?_) na) na))
  · exact Rst.tup (fun Z3 H3 v3 g3 r3 o3 a3 => k Z3 H3 v3 g3 r3 o3 (a1.trans a3)) (rgC_rep c _ i)
  · subst ex
    refine call_tuple_range (n := (Builtin.Range.rangeSize a b c).toNat) (I1.ok.hd hc) hr ok.1 (by have := size_nn a b c; omega) ok.2 fun h' tk acc hk hi => ?_
    have I2 : Inv X pins σ H1 { s1 with heap := h', toks := tk } := I1.kept hk
    refine ⟨.ref h'.objs.size, upd H1 h'.objs.size (.tup (rgC a c (Builtin.Range.rangeSize a b c).toNat)), I2.laid (t' := tk) (fun c o e => Heap.get?_push_of_some _ e) (Nat.le_refl _) (show ObjOk X.prog X.w _ _ _ (.tup _) from ⟨?_, acc.toList, vals_rgC hi, ?_⟩), rfl, q _ (I2.hok.fresh (Nat.le_refl _))⟩
    · rw [rgC_length, sizeLine_eq]; omega
    · rw [Array.toArray_toList]; exact IsTup.new _ _
end
end DL

namespace DL
open PySem PySem.Spec PyProof.Rows L2
/-! ## picks, the other way of writing them -/
theorem ali_ok : ∀ (k : Nat) (l : List Int) (a : Int), l.length + 1 ≤ k → ∃ p, aliL k l a = some p
  | 0, l, a, h => by omega
  | k + 1, l, a, h => by
    show ∃ p, (if (decide (a < 2) && !l.isEmpty) = true then (lastI l).bind fun p => aliL k p.1 p.2 else some (l, a)) = some p
    by_cases h1 : (decide (a < 2) && !l.isEmpty) = true
    · have hne : l ≠ [] := by
        intro q
        rw [q] at h1
        simp at h1
      obtain ⟨m, y, e, hl⟩ := lastI_some hne
      rw [if_pos h1, e]
      exact ali_ok k m y (by omega)
    · rw [if_neg h1]; exact ⟨_, rfl⟩
def pick4 (A B C D E : Int) : FS := (fSeq (fIf (bO (o2 ltA (rdV 1) (kO (.int 2)))) (fRet (kO (.int 0))) fNx) (fSeq (fAlias 0 2) (fSeq (fSet 3 (srcI 0 .left)) (fSeq (fIf (bO (o2 gtA (rdV 3) (kO (.int 1)))) (fSeq (fSrcSet 0 .left (o2 divI (rdV 3) (rdV 1))) (fRet (o2 modI (oL (g1 intO) (lCons (rdV 3) lNil)) (rdV 1)))) fNx) (fSeq (fSrcSet 0 .turn (o2 addO (srcI 0 .turn) (kO (.int 1)))) (fSeq (fSet 4 (srcI 0 .turn)) (fSeq (fSet 5 (o2 modI (oL (g1 intO) (lCons (o2 addO (srcI 0 .mixed) (o2 mulO (rdV 4) (kO (.int A)))) lNil)) (kO (.int B)))) (fSeq (fSet 5 (o2 modI (oL (g1 intO) (lCons (o2 addO (o2 mulO (rdV 5) (rdV 5)) (o2 mulO (rdV 4) (kO (.int C)))) lNil)) (kO (.int D)))) (fRet (o2 modI (oL (g1 intO) (lCons (o2 divI (rdV 5) (kO (.int E))) lNil)) (rdV 1)))))))))))
theorem pick4_ok (A B C D E : Int) (hA : small64 A = true := by decide) (hB : 0 < B := by decide) (hB2 : B ≤ 2 ^ 63 := by decide) (hC : small64 C = true := by decide) (hD : 0 < D := by decide) (hE : 0 < E := by decide) (hE2 : E < 1073741824 := by decide) : Pk (fnOfB 6 (pick4 A B C D E)) := fun l a b c many h1 h2 => by
  have fin : ∀ {x : Int} {o' : Ob} {ρ' : Env}, pick4 A B C D E [some (.src l a b c), some (.fr (.int many)), none, none, none, none] = some (.rt (.fr (.int x)) (some o' :: ρ')) → fnOfB 6 (pick4 A B C D E) (.src l a b c) [.int many] = some (.fr (.int x), o') := fun h => by
    show ((pick4 A B C D E [some (.src l a b c), some (.fr (.int many)), none, none, none, none]).bind _) = _
    rw [h]; rfl
  by_cases m2 : many < 2
  · refine ⟨0, l, a, b, c, fin (ρ' := [some (.fr (.int many)), none, none, none, none]) ?_, by omega, by omega⟩
    unfold pick4
    refine fSeq_rt ((fIf_t ?_).trans rfl)
    show some (decide (many < 2)) = _
    rw [decide_eq_true m2]
  · have c1 : bO (o2 ltA (rdV 1) (kO (.int 2))) [some (.src l a b c), some (.fr (.int many)), none, none, none, none] = some false := by
      show some (decide (many < 2)) = _
      rw [decide_eq_false m2]
    obtain ⟨⟨l', a'⟩, hw⟩ := ali_ok (l.length + 1) l a (Nat.le_refl _)
    have hw2 : fAlias 0 2 [some (.src l a b c), some (.fr (.int many)), none, none, none, none] = some (.nx [some (.src l' a' b c), some (.fr (.int many)), none, none, none, none]) := by
      show ((aliL (l.length + 1) l a).bind _) = _
      rw [hw]; rfl
    have s1 := fun g => (fSeq_nx (g := g) ((fIf_f (f := fRet (kO (.int 0))) (g := fNx) c1).trans rfl))
    have s2 := fun g => fSeq_nx (f := fAlias 0 2) (g := g) (ρ := [some (.src l a b c), some (.fr (.int many)), none, none, none, none]) hw2
    have s3 := fun g => fSeq_nx (f := fSet 3 (srcI 0 .left)) (g := g) (ρ := [some (.src l' a' b c), some (.fr (.int many)), none, none, none, none]) (ρ' := [some (.src l' a' b c), some (.fr (.int many)), none, some (.fr (.int a')), none, none]) rfl
    by_cases a1 : 1 < a'
    · refine ⟨a' % many, l', a' / many, b, c, fin (ρ' := [some (.fr (.int many)), none, some (.fr (.int a')), none, none]) ?_, Int.emod_nonneg _ (by omega), Int.emod_lt_of_pos _ (by omega)⟩
      unfold pick4
      rw [s1, s2, s3]
      refine fSeq_rt ((fIf_t ?_).trans ?_)
      · show some (decide (1 < a')) = _
        rw [decide_eq_true a1]
      · refine (fSeq_nx (ρ' := [some (.src l' (a' / many) b c), some (.fr (.int many)), none, some (.fr (.int a')), none, none]) ?_).trans ?_
        · show ((divI (.fr (.int a')) (.fr (.int many))).bind _) = _
          rw [divI_ok (by omega) h2]; rfl
        · show ((modI (.fr (.int a')) (.fr (.int many))).bind _) = _
          rw [modI_ok (by omega)]; rfl
    · have c2 : bO (o2 gtA (rdV 3) (kO (.int 1))) [some (.src l' a' b c), some (.fr (.int many)), none, some (.fr (.int a')), none, none] = some false := by
        show some (decide (1 < a')) = _
        rw [decide_eq_false a1]
      let t := c + 1
      let x := (b + t * A) % B
      let y := (x * x + t * C) % D
      have sx : small64 x = true := sm64_mod hB hB2
      refine ⟨y / E % many, l', a', b, t, fin (ρ' := [some (.fr (.int many)), none, some (.fr (.int a')), some (.fr (.int t)), some (.fr (.int y))]) ?_, Int.emod_nonneg _ (by omega), Int.emod_lt_of_pos _ (by omega)⟩
      unfold pick4
      rw [s1, s2, s3]
      refine (fSeq_nx (ρ' := [some (.src l' a' b c), some (.fr (.int many)), none, some (.fr (.int a')), none, none]) ((fIf_f c2).trans rfl)).trans ?_
      refine (fSeq_nx (ρ' := [some (.src l' a' b t), some (.fr (.int many)), none, some (.fr (.int a')), none, none]) rfl).trans ?_
      refine (fSeq_nx (ρ' := [some (.src l' a' b t), some (.fr (.int many)), none, some (.fr (.int a')), some (.fr (.int t)), none]) rfl).trans ?_
      refine (fSeq_nx (ρ' := [some (.src l' a' b t), some (.fr (.int many)), none, some (.fr (.int a')), some (.fr (.int t)), some (.fr (.int x))]) ?_).trans ?_
      · show (((((mulO (.fr (.int t)) (.fr (.int A))).bind fun q => addO (.fr (.int b)) q).bind fun o => some [o]).bind (g1 intO)).bind fun q => modI q (.fr (.int B))).bind _ = _
        rw [mulO_r hA]
        show (modI (.fr (.int (b + t * A))) (.fr (.int B))).bind _ = _
        rw [modI_ok hB]; rfl
      refine (fSeq_nx (ρ' := [some (.src l' a' b t), some (.fr (.int many)), none, some (.fr (.int a')), some (.fr (.int t)), some (.fr (.int y))]) ?_).trans ?_
      · show (((((mulO (.fr (.int x)) (.fr (.int x))).bind fun p => (mulO (.fr (.int t)) (.fr (.int C))).bind fun q => addO p q).bind fun o => some [o]).bind (g1 intO)).bind fun q => modI q (.fr (.int D))).bind _ = _
        rw [mulO_r sx, mulO_r hC]
        show (modI (.fr (.int (x * x + t * C))) (.fr (.int D))).bind _ = _
        rw [modI_ok hD]; rfl
      show ((((divI (.fr (.int y)) (.fr (.int E))).bind fun o => some [o]).bind (g1 intO)).bind fun q => modI q (.fr (.int many))).bind _ = _
      rw [divI_ok hE hE2]
      show (modI (.fr (.int (y / E))) (.fr (.int many))).bind _ = _
      rw [modI_ok (by omega)]; rfl
def src4 (A B C D E L : Int) : FS := fSeq (fSet 1 (kO (.int A))) (fSeq (fFor (iScr 0) (gN 2) (mixF B C D E)) (fSeq (fSet 3 (oLc 4 [2] (iScr 0) (gN 2) bYes (oL (g1 absO) (lCons (rdV 2) lNil)))) (fSeq (fFz 3) (fRet (dSrc (o1 revO (rdV 3)) (kO (.int L)) (frV 1) (kO (.int 0)))))))
theorem src4_ok (A B C D E L : Int) (hB : small64 B = true := by decide) (hC : small64 C = true := by decide) (hE : 0 < E := by decide) : Sc (fnOfB 4 (src4 A B C D E L)) := fun ns hl => by
  obtain ⟨m, x, hf⟩ := mix_for hB hC hE (some (.scr ns)) [none] ns A none
  refine ⟨(ns.map absI).reverse, L, m, 0, ?_⟩
  have e1 : oLc 4 [2] (iScr 0) (gN 2) bYes (oL (g1 absO) (lCons (rdV 2) lNil)) [some (.scr ns), some (.fr (.int m)), x, none] = some (.lst (ns.map fun i => .int (absI i))) := by
    show (if short (ns.map .int) = true then (lcL (gN 2) bYes (oL (g1 absO) (lCons (rdV 2) lNil)) (ns.map .int) [some (.scr ns), some (.fr (.int m)), none, none]).bind fun l => some (Ob.lst l) else none) = _
    rw [if_pos (short63 _ hl), abs_lc]; rfl
  have e2 : dSrc (o1 revO (rdV 3)) (kO (.int L)) (frV 1) (kO (.int 0)) [some (.scr ns), some (.fr (.int m)), x, some (.fr (.list (ns.map fun i => .int (absI i))))] = some (.src (ns.map absI).reverse L m 0) := by
    show ((intsOf (ns.map fun i => PyData.int (absI i)).reverse).bind fun l => some (Ob.src l L m 0)) = _
    rw [show (ns.map fun i => PyData.int (absI i)).reverse = (ns.map absI).reverse.map .int by rw [List.map_reverse, List.map_map]; rfl, ints_map]
    rfl
  have e3 : src4 A B C D E L [some (.scr ns), none, none, none] = some (.rt (.src (ns.map absI).reverse L m 0) [some (.scr ns), some (.fr (.int m)), x, some (.fr (.list (ns.map fun i => .int (absI i))))]) := by
    unfold src4
    refine (fSeq_nx (ρ' := [some (.scr ns), some (.fr (.int A)), none, none]) rfl).trans ?_
    refine (fSeq_nx (ρ' := [some (.scr ns), some (.fr (.int m)), x, none]) hf).trans ?_
    refine (fSeq_nx (ρ' := [some (.scr ns), some (.fr (.int m)), x, some (.lst (ns.map fun i => .int (absI i)))]) ?_).trans ?_
    · unfold fSet
      rw [e1]; rfl
    refine (fSeq_nx (ρ' := [some (.scr ns), some (.fr (.int m)), x, some (.fr (.list (ns.map fun i => .int (absI i))))]) rfl).trans ?_
    unfold fRet
    rw [e2]; rfl
  show (src4 A B C D E L [some (.scr ns), none, none, none]).bind _ = _
  rw [e3]; rfl
end DL

namespace DL
open PySem PySem.Spec PyProof.Rows L2
/-! ## comprehensions whose tests and items write -/
def lcEL (ga : FT) (tt : FBE) (te : FE) (vs : List Nat) : List PyData → Env → Option (List PyData × Env)
  | [], ρ => some ([], ρ)
  | d :: ds, ρ => (ga d ρ).bind fun ρ1 => (tt ρ1).bind fun p => if p.1 then (te p.2).bind fun q => (fz q.1).bind fun x => (lcEL ga tt te vs ds (wipeE q.2 vs)).bind fun r => some (x :: r.1, r.2) else lcEL ga tt te vs ds (wipeE p.2 vs)
def oLcE (n : Nat) (vs : List Nat) (fi : FD) (ga : FT) (tt : FBE) (te : FE) : FE := fun ρ => if Nat.beq ρ.length n then (fi ρ).bind fun ds => if short ds then (lcEL ga tt te vs ds (wipeE ρ vs)).bind fun r => some (.lst r.1, r.2) else none else none
def bYesE : FBE := fun ρ => some (true, ρ)
section
variable {K : PySem.W.Frag} {Z : Zs} {H : Hp}
theorem ER.agree {σ : L2.St} {ρ : Env} {fp : List Addr} (h : ER K Z H σ ρ fp) : ∀ {σ' : L2.St}, σ'.length = σ.length → (∀ (i : Nat) (o : Ob), ρ[i]? = some (some o) → σ'[i]? = σ[i]?) → ER K Z H σ' ρ fp := by
  induction h with
  | nil => intro σ' hl _; rw [List.eq_nil_of_length_eq_zero hl]; exact .nil
  | no _ ih =>
    intro σ' hl ha
    cases σ' with
    | nil => simp at hl
    | cons y σ' => exact .no (ih (by simpa using hl) fun i o e => by simpa using ha (i + 1) o (by simpa using e))
  | one r _ ih =>
    intro σ' hl ha
    cases σ' with
    | nil => simp at hl
    | cons y σ' =>
      have h0 := ha 0 _ rfl
      simp at h0
      subst h0
      exact .one r (ih (by simpa using hl) fun i o e => by simpa using ha (i + 1) o (by simpa using e))
theorem wipeE_at (ρ : Env) (i : Nat) : ∀ (vs : List Nat) (o : Ob), (wipeE ρ vs)[i]? = some (some o) → i ∉ vs
  | [], _, _ => by simp
  | v :: vs, o, h => by
    have h : ((wipeE ρ vs).set v none)[i]? = some (some o) := h
    by_cases e : v = i
    · subst e
      by_cases hl : v < (wipeE ρ vs).length
      · rw [List.getElem?_set_self hl] at h; cases h
      · rw [List.getElem?_eq_none (by simpa using hl)] at h; cases h
    · rw [List.getElem?_set_ne e] at h
      have := wipeE_at ρ i vs o h
      intro m
      rcases List.mem_cons.mp m with q | m
      · exact e q.symm
      · exact this m
/-- back from the block -/
theorem Stt.unwipe {σ : L2.St} {ρ : Env} {fp : List Addr} {vs : List Nat} (S : Stt K Z H (L2.wipe σ vs) (wipeE ρ vs) fp) : Stt K Z H σ (wipeE ρ vs) fp :=
  ⟨S.er.agree (wipe_length σ vs).symm fun i o e => ((wipe_at σ i vs).2 (wipeE_at ρ i vs o e)).symm, S.own, S.za⟩
theorem Stt.upd0 {σ : L2.St} {ρ : Env} {fp : List Addr} {D : Addr} {o : HO} (S : Stt K Z H σ ρ fp) (hD : ∃ o, H D = some o) (nt : ∀ xs, H D ≠ some (.tup xs)) (nz : ¬ Z D) (nf : D ∉ fp) (m : Mt o) : Stt K Z (L2.upd H D o) σ ρ fp := by
  have a : Fr H [D] Z (L2.upd H D o) [D] Z := Fr.upd1 hD (by simp)
  refine ⟨S.er.keep a (fun b xs e m => nt xs (by rw [← List.mem_singleton.mp m]; exact e)) (fun b mb m => nf (by rw [← List.mem_singleton.mp m]; exact mb)) (fun b z m => nz (by rw [← List.mem_singleton.mp m]; exact z)), S.own.upd1 m, a.zal S.za⟩
end
section
variable {X : Cx} {K : PySem.W.Frag} {pos : Pos} {fi : FD} {ga : FT} {tt : FBE} {te : FE} {n : Nat} {vs : List Nat}
theorem runLcE {σ : L2.St} {H : Hp} {Q : VK} (h : tE K (oLcE n vs fi ga tt te) σ H Q) : tLc (tI K fi) (tG K (offs n vs) ga) (tTE K tt) (tE K te) vs σ H Q := by
  obtain ⟨Z, ρ, fp, o, ρ', S, e, k⟩ := h
  have e : (if Nat.beq ρ.length n = true then (fi ρ).bind fun ds => if short ds = true then (lcEL ga tt te vs ds (wipeE ρ vs)).bind fun r => some (Ob.lst r.1, r.2) else none else none) = some (o, ρ') := e
  split at e
  · rename_i hn
    have hn : ρ.length = n := Nat.eq_of_beq_eq_true hn
    obtain ⟨ds, ed, e⟩ := bind_some e
    split at e
    · rename_i hs
      have hs := short_ok hs
      obtain ⟨⟨l, ρe⟩, el, e⟩ := bind_some e
      cases e
      refine ⟨Z, ρ, fp, ds, S, ed, fun Z1 H1 J it a1 D nD => ?_⟩
      have S1 := S.still a1
      have za1 := S1.za
      have nzD : ¬ Z1 D := fun z => by
        obtain ⟨o, q⟩ := za1 D z
        rw [nD] at q; cases q
      have u1 : Fr H1 [] Z1 (L2.upd H1 D (.lst [])) [D] Z1 := upd_fr nD Z1 (fun _ z => z) (fun _ z => .inl z) (fun b m => by simpa using m)
      have own0 : Own Z1 (L2.upd H1 D (.lst [])) [D] := ⟨by simp, fun a m => by rw [List.mem_singleton.mp m]; exact nzD, fun a m => by rw [List.mem_singleton.mp m]; exact ⟨_, upd_same, trivial⟩⟩
      have u1' : Fr H1 [] Z1 (L2.upd H1 D (.lst [])) [] Z1 := u1.less fun _ m => (nomatch m)
      obtain ⟨fpw, Sw, subw⟩ := (S1.still u1').wipe vs
      have owAll : Own Z1 (L2.upd H1 D (.lst [])) (D :: fp) := (S1.own.fresh u1 own0).swap
      have ow0 : Own Z1 (L2.upd H1 D (.lst [])) (D :: fpw) := owAll.sub (fun b m => by
        rcases List.mem_cons.mp m with rfl | m
        · exact List.mem_cons_self
        · exact List.mem_cons_of_mem _ (subw b m)) (List.nodup_cons.mpr ⟨fun m => (List.nodup_cons.mp owAll.nd).1 (subw _ m), Sw.own.nd⟩)
      have fr0 : Fr H1 fp Z1 (L2.upd H1 D (.lst [])) (D :: fpw) Z1 := by
        have q := u1.aside (g := fp)
        rw [List.append_nil] at q
        exact q.less fun b m => by
          rcases List.mem_cons.mp m with rfl | m
          · simp
          · exact List.mem_append_left _ (subw b m)
      refine ⟨fun i m H2 => ∃ Z2 av ad rest ρx fpi, m = ds.length - i ∧ i ≤ ds.length ∧ H2 D = some (.lst av) ∧ DpZs K Z2 H2 av ad ∧ Stt K Z2 H2 (L2.wipe σ vs) (wipeE ρx vs) fpi ∧ Own Z2 H2 (D :: fpi) ∧ av.length ≤ i ∧ Fr H1 fp Z1 H2 (D :: fpi) Z2 ∧ lcEL ga tt te vs (ds.drop i) (wipeE ρx vs) = some (rest, ρe) ∧ ad ++ rest = l,
        ⟨_, Z1, [], [], l, ρ, fpw, rfl, Nat.zero_le _, upd_same, .nil, Sw, ow0, Nat.le_refl _, fr0, el, rfl⟩, ?_⟩
      rintro i m H2 ⟨Z2, av, ad, rest, ρx, fpi, rfl, hi, hD, dv, S2, ow2, hlen, a2, e2, el2⟩
      have kp12 : Kp Z1 H1 Z2 H2 := a2.kp S1.own
      obtain ⟨go, stop⟩ := it i Z2 H2 kp12 S2.za
      by_cases hlt : i < ds.length
      · obtain ⟨g1, g2⟩ := go ds[i] (List.getElem?_eq_getElem hlt)
        rw [List.drop_eq_getElem_cons hlt] at e2
        obtain ⟨ρ3, e3, e2⟩ := bind_some (show ((ga ds[i] (wipeE ρx vs)).bind fun ρ1 => (tt ρ1).bind fun p => if p.1 = true then (te p.2).bind fun q => (fz q.1).bind fun x => (lcEL ga tt te vs (ds.drop (i + 1)) (wipeE q.2 vs)).bind fun r => some (x :: r.1, r.2) else lcEL ga tt te vs (ds.drop (i + 1)) (wipeE p.2 vs)) = some (rest, ρe) from e2)
        obtain ⟨⟨b, ρ5⟩, eb, e2⟩ := bind_some e2
        refine .inr ⟨g1, fun H' => ∃ Z2 av ad rest ρx fpi, i + 1 ≤ ds.length ∧ H' D = some (.lst av) ∧ DpZs K Z2 H' av ad ∧ Stt K Z2 H' (L2.wipe σ vs) (wipeE ρx vs) fpi ∧ Own Z2 H' (D :: fpi) ∧ av.length ≤ i + 1 ∧ Fr H1 fp Z1 H' (D :: fpi) Z2 ∧ lcEL ga tt te vs (ds.drop (i + 1)) (wipeE ρx vs) = some (rest, ρe) ∧ ad ++ rest = l, fun H' ⟨Z2, av, ad, rest, ρx, fpi, q⟩ => ⟨_, by omega, Z2, av, ad, rest, ρx, fpi, rfl, q⟩, fun x H3 y => ?_⟩
        obtain ⟨Z3, dx, a3⟩ := g2 x H3 y
        have S3 := S2.still a3
        refine ⟨Z3, _, fpi, ds[i], ρ3, S3, dx, e3, fun σ4 fp4 S4 s4 k4 => ⟨wipe_back (by rw [S.er.len]; exact hn) k4, Z3, ρ3, fp4, b, ρ5, S4, eb, fun Z5 H5 fp5 S5 a5 => ?_⟩⟩
        have wb : L2.wipe σ4 vs = L2.wipe σ vs := wipe_back (by rw [S.er.len]; exact hn) k4
        -- the list built so far stands aside
        have ow3 : Own Z3 H3 (D :: fpi) := ow2.still a3
        have ow4 : Own Z3 H3 ([D] ++ fp4) := ow3.sub (fun b m => by
          rcases List.mem_append.mp m with m | m
          · rw [List.mem_singleton.mp m]; exact List.mem_cons_self
          · exact List.mem_cons_of_mem _ (s4 b m)) (List.nodup_cons.mpr ⟨fun m => (List.nodup_cons.mp ow3.nd).1 (s4 _ m), S4.own.nd⟩)
        have hD3 : H3 D = some (.lst av) := a3.same _ _ hD (by simp)
        have hDn4 : D ∉ fp4 := fun m => (List.nodup_cons.mp ow3.nd).1 (s4 _ m)
        have hD5 : H5 D = some (.lst av) := a5.same _ _ hD3 hDn4
        have ow5 : Own Z5 H5 ([D] ++ fp5) := ow4.aside a5 S5.own
        have dv5 : DpZs K Z5 H5 av ad := (dv.still a3).kp (a5.kp S4.own)
        have fr5 : Fr H1 fp Z1 H5 (D :: fp5) Z5 := by
          have q3 : Fr H1 fp Z1 H3 (D :: fpi) Z3 := a2.trans (tail_fr a3)
          have q4 : Fr H1 fp Z1 H3 ([D] ++ fp4) Z3 := q3.less fun b m => by
            rcases List.mem_append.mp m with m | m
            · rw [List.mem_singleton.mp m]; exact List.mem_cons_self
            · exact List.mem_cons_of_mem _ (s4 b m)
          exact q4.trans (a5.aside (g := [D]))
        cases b with
        | false =>
          rw [if_neg Bool.false_ne_true] at e2
          refine L2.iteF ?_
          obtain ⟨fpz, Sz, subz⟩ := S5.wipe vs
          rw [wb] at Sz
          refine ⟨Z5, av, ad, rest, ρ5, fpz, hlt, hD5, dv5, Sz, ow5.sub (fun b m => by
            rcases List.mem_cons.mp m with rfl | m
            · simp
            · exact List.mem_append_right _ (subz b m)) (List.nodup_cons.mpr ⟨fun m => (List.nodup_cons.mp ow5.nd).1 (subz _ m), Sz.own.nd⟩), by omega, fr5.less fun b m => by
            rcases List.mem_cons.mp m with rfl | m
            · exact List.mem_cons_self
            · exact List.mem_cons_of_mem _ (subz b m), e2, el2⟩
        | true =>
          rw [if_pos rfl] at e2
          refine L2.iteT ?_
          obtain ⟨⟨o6, ρ6⟩, e6, e2⟩ := bind_some e2
          obtain ⟨x6, ex6, e2⟩ := bind_some e2
          obtain ⟨⟨r6, ρr⟩, er6, e2⟩ := bind_some e2
          cases e2
          refine ⟨Z5, ρ5, fp5, o6, ρ6, S5, e6, fun Z6 H6 v6 g6 fp6 r6' S6 ow6 a6 => ?_⟩
          obtain ⟨Z7, S7, dz7, a7⟩ := frzE S6 r6' ow6 a6 S5.own ex6
          have hDn5 : D ∉ fp5 := (List.nodup_cons.mp ow5.nd).1
          have hD6 : H6 D = some (.lst av) := a7.same _ _ hD5 hDn5
          have ow7 : Own Z7 H6 ([D] ++ fp6) := ow5.aside a7 S7.own
          have dv7 : DpZs K Z7 H6 av ad := dv5.kp (a7.kp S5.own)
          have fr7 : Fr H1 fp Z1 H6 (D :: fp6) Z7 := fr5.trans (a7.aside (g := [D]))
          have nzD7 : ¬ Z7 D := ow7.nz D (by simp)
          have ntD7 : ∀ xs, H6 D ≠ some (.tup xs) := fun xs q => by rw [hD6] at q; cases q
          have hDn6 : D ∉ fp6 := (List.nodup_cons.mp ow7.nd).1
          have S8 := S7.upd0 (o := .lst (av ++ [v6])) ⟨_, hD6⟩ ntD7 nzD7 hDn6 trivial
          obtain ⟨fpz, Sz, subz⟩ := S8.wipe vs
          rw [wb] at Sz
          have ow8 : Own Z7 (L2.upd H6 D (.lst (av ++ [v6]))) (D :: fp6) := Own.upd1 ow7 trivial
          refine ⟨av, hD6, by omega, Z7, av ++ [v6], ad ++ [x6], r6, ρ6, fpz, hlt, upd_same, (dv7.upd nzD7 ntD7).append (.cons (dz7.upd nzD7 ntD7) .nil), Sz, ow8.sub (fun b m => by
            rcases List.mem_cons.mp m with rfl | m
            · simp
            · exact List.mem_cons_of_mem _ (subz b m)) (List.nodup_cons.mpr ⟨fun m => (List.nodup_cons.mp ow8.nd).1 (subz _ m), Sz.own.nd⟩), by rw [List.length_append]; simp; omega, (fr7.trans (Fr.upd1 ⟨_, hD6⟩ List.mem_cons_self)).less fun b m => by
            rcases List.mem_cons.mp m with rfl | m
            · exact List.mem_cons_self
            · exact List.mem_cons_of_mem _ (subz b m), er6, by rw [← el2]; simp⟩
      · have hl : ds.length ≤ i := Nat.le_of_not_lt hlt
        rw [List.drop_eq_nil_of_le hl] at e2
        cases e2
        rw [List.append_nil] at el2
        subst el2
        exact .inl ⟨stop hl, k Z2 H2 (.ref D) [D] fpi (.lst hD dv) S2.unwipe ow2 ((tail_fr a1).trans a2)⟩
    · cases e
  · cases e
abbrev TDsE (X : Cx) (ifs : List Expr) (f : FBE) : Prop := PTs X ifs (tTE X.K f)
theorem tse_nil : TDsE X [] bYesE := ⟨fun pins s σ H Q I h => by
  obtain ⟨Z, ρ, fp, b, ρ', S, e, k⟩ := h
  cases e
  exact pts_nil.run pins s σ H Q I (k Z H fp S .refl)⟩
theorem tse_one {c : Expr} {f : FBE} (h : ET X c f) : TDsE X [c] f := pts_one h
theorem e_lcE {elt tg iter : Expr} {ifs : List Expr} {scope : Scope} (own : List (Str × Nat)) {n : Nat} (hc : X.calm = true) (hN : X.N.Nodup) (hi : DI X tg iter fi) (ok : BlkOk X.N X.env.scope scope own)
    (hg : BlkAll X scope fun X => DG X (offs n (own.map (·.2))) tg ga) (ht : BlkAll X scope fun X => TDsE X ifs tt) (he : BlkAll X scope fun X => DE X elt te) (hs : ∀ x, foldedSetIterable iter X.env x = pure x := by intro _; rfl) :
    DE X (.ListComp elt [⟨tg, iter, ifs, 0⟩] scope pos) (oLcE n (own.map (·.2)) fi ga tt te) := PE.imp (pe_lc hc hN hi ok hg ht he hs) fun _ _ _ h => runLcE h
end
end DL

namespace DL
open PySem PySem.Spec PyProof.Rows L2
section
variable {X : Cx} {K : PySem.W.Frag} {pos : Pos} {fi : FD} {ga : FT} {tt : FBE} {te : FE} {n : Nat} {vs : List Nat}
theorem runSetE {B : List Nat} {i : Nat} {t : TE} {fe : FE} (ht : ∀ σ H Q, tE K fe σ H Q → t σ H Q) (hB : i ∉ B) {D : Ends} {σ : L2.St} {H : Hp} (h : tS K B (fSetE i fe) D σ H) : tAsg t (gName i) D σ H := by
  obtain ⟨Z, ρ, fp, r, S, e, k⟩ := h
  obtain ⟨⟨o, ρ1⟩, eo, e⟩ := bind_some e
  cases e
  refine ht _ _ _ ⟨Z, ρ, fp, o, ρ1, S, eo, fun Z1 H1 v1 g1 fp1 r1 S1 ow a1 => ?_⟩
  obtain ⟨fp', S2, hs⟩ := S1.set r1 ow i
  exact k Z1 H1 _ fp' S2 (a1.less hs) (kpB_set hB)
theorem s_setLcE (i : Nat) {B : List Nat} {y : Str} {py spos : Pos} {elt tg iter : Expr} {ifs : List Expr} {scope : Scope} (own : List (Str × Nat)) {n : Nat} (hc : X.calm = true) (hN : X.N.Nodup) (hi : DI X tg iter fi) (ok : BlkOk X.N X.env.scope scope own)
    (hg : BlkAll X scope fun X => DG X (offs n (own.map (·.2))) tg ga) (ht : BlkAll X scope fun X => TDsE X ifs tt) (he : BlkAll X scope fun X => DE X elt te) (hsw : swapsWith (.ListComp elt [⟨tg, iter, ifs, 0⟩] scope pos) (some (.Name y py)) spos.line X.env = pure true)
    (hy : X.N[i]? = some y := by rfl) (hyl : X.env.scope.names.lookup y = some .local := by rfl) (hB : i ∉ B := by decide) (hs : ∀ x, foldedSetIterable iter X.env x = pure x := by intro _; rfl) :
    DS X B (.Assign [.Name y py] (.ListComp elt [⟨tg, iter, ifs, 0⟩] scope pos) spos) (fSetE i (oLcE n (own.map (·.2)) fi ga tt te)) := PS.imp (ps_setLc hc hN hy hyl hsw hi ok hg ht he hs) fun D σ H h => runSetE (fun _ _ _ h => runLcE h) hB h
end
/-! ## x.pop(k) of a list of one's own -/
def ePop (i : Nat) (fe : FE) : FE := fun ρ => match ρ[i]? with
  | some (some (.lst _)) => (fe ρ).bind fun p => (asI p.1).bind fun k => match p.2[i]? with
    | some (some (.lst l)) => if sm62 k then (ixN' l.length k).bind fun j => (l[j]?).bind fun d => some (.fr d, p.2.set i (some (.lst (l.eraseIdx j)))) else none
    | _ => none
  | _ => none
theorem seqIx {n : Nat} {i : Int} {j : Nat} (h : ixN' n i = some j) : seqIndex? i n = some j := by
  have h := ixN'_eq h
  have e : ∀ z : Int, 0 ≤ z → z < n → (if (decide (0 ≤ z) && decide (z < n)) = true then some z.toNat else none) = some z.toNat := fun z h1 h2 => by
    rw [decide_eq_true h1, decide_eq_true h2]; rfl
  unfold ixN at h
  by_cases c : 0 ≤ i
  · rw [if_pos c] at h
    split at h
    · rename_i c2
      cases h
      have q : (if i < 0 then i + (n : Int) else i) = i := if_neg (by omega)
      show (if (decide (0 ≤ (if i < 0 then i + (n : Int) else i)) && decide ((if i < 0 then i + (n : Int) else i) < n)) = true then some (if i < 0 then i + (n : Int) else i).toNat else none) = _
      rw [q]
      exact e i c c2
    · cases h
  · rw [if_neg c] at h
    split at h
    · rename_i c2
      cases h
      have q : (if i < 0 then i + (n : Int) else i) = i + n := if_pos (by omega)
      show (if (decide (0 ≤ (if i < 0 then i + (n : Int) else i)) && decide ((if i < 0 then i + (n : Int) else i) < n)) = true then some (if i < 0 then i + (n : Int) else i).toNat else none) = _
      rw [q]
      exact e _ (by omega) (by omega)
    · cases h
section
variable {X : Cx} {B : List Nat} {pos apos cpos npos : Pos} {e : Expr} {fe : FE} {x : Str}
theorem e_pop (i : Nat) (he : DE X e fe) (hN : X.N[i]? = some x := by rfl) (hv : Vis X.env.scope x := by first | exact Or.inl rfl | exact Or.inr (Or.inl rfl) | exact Or.inr (Or.inr rfl)) (hd : (x == ("__debug__" : Str)) = false := by decide)
    (hcd : (x == ("__classdict__" : Str)) = false := by decide) (hbase : attributeBase (.Name x npos) "pop" X.env (eval (.Name x npos) X.env) = eval (.Name x npos) X.env := by rfl) (hfew : ((backTo cpos (starEach [e] X.env)).all (fun x => !x.1) && (backToKw cpos (keywordEach [] X.env)).all (fun x => x.1.isSome) && decide (([e] : List Expr).length + ([] : List Keyword).length + (if ([] : List Keyword).isEmpty then 0 else 1) < 30)) = true := by rfl) (hln : (apos.endLine == cpos.line) = true := by rfl) (hs : starEach [e] X.env = (false, eval e X.env) :: starEach [] X.env := by rfl) :
    DE X (.Call (.Attribute (.Name x npos) "pop" apos) [e] [] cpos) (ePop i fe) := PE.imp (pe_bm PySem.F.plainAttrs_list PySem.F.slot_list_pop PySem.F.type_list_pop mt_popAt (pe_var hN hv hd hcd) (pa_cons he pa_nil hs) (hbase := hbase) (hfew := hfew) (hline := hln) (hs := hs)) fun σ H Q h => by
  obtain ⟨Z, ρ, fp, o, ρ', S, e, k⟩ := h
  unfold ePop at e
  split at e
  · rename_i l0 el0
    obtain ⟨⟨o1, ρ1⟩, e1, e⟩ := bind_some e
    obtain ⟨i1, ei, e⟩ := bind_some e
    split at e
    · rename_i l el
      split at e
      · rename_i hsm
        obtain ⟨j, ej, e⟩ := bind_some e
        obtain ⟨d, ed, e⟩ := bind_some e
        cases e
        obtain ⟨v, g, h1, h2, _, _⟩ := S.write el0
        obtain ⟨a, vs0, rfl, rfl, h3, _⟩ := lst_of h2
        refine ⟨.ref a, h1, .inl ⟨rfl, vs0, .of h3⟩, Z, ρ, fp, o1, ρ1, S, e1, fun Z1 H1 v1 g1 fp1 r1 S1 ow a1 => ?_⟩
        have hv1 := asI_rep r1 ei
        subst hv1
        obtain ⟨v', g', h1', h2', ow', wr⟩ := S1.write el
        rw [h1] at h1'
        cases h1'
        obtain ⟨a', vs', q, rfl, h3', h4'⟩ := lst_of h2'
        cases q
        obtain ⟨y, hy, hyd⟩ := h4'.atD ed
        obtain ⟨s1, s2⟩ := Bool.and_eq_true_iff.mp (show (decide (-(2 ^ 62) ≤ i1) && decide (i1 < 2 ^ 62)) = true from hsm)
        have s1 := of_decide_eq_true s1
        have s2 := of_decide_eq_true s2
        refine ⟨a, vs', i1, j, y, rfl, rfl, h3', by omega, by omega, by rw [h4'.length]; exact seqIx ej, hy, ?_⟩
        have nz : ¬ Z1 a := ow'.nz a List.mem_cons_self
        have nt : ∀ xs, H1 a ≠ some (.tup xs) := fun xs q => by rw [h3'] at q; cases q
        obtain ⟨fp', S2, _, f2⟩ := wr Z1 (upd H1 a (.lst (vs'.eraseIdx j))) (.lst (l.eraseIdx j)) [a] [] (Fr.upd1 ⟨_, h3'⟩ List.mem_cons_self) (.lst upd_same ((h4'.upd nz nt).erase j)) (ow'.upd1 trivial)
        have a1' : Fr H fp Z H1 fp1 Z1 := a1.less fun b m => List.mem_append_right _ m
        exact k Z1 _ y [] fp' (.fr (hyd.upd nz nt)) S2 S2.own (a1'.trans f2)
      · cases e
    · cases e
  · cases e
/-! ## x.append(e), e writes -/
def fAppE (i : Nat) (fe : FE) : FS := fun ρ => match ρ[i]? with
  | some (some (.lst _)) => (fe ρ).bind fun p => (fz p.1).bind fun d => match p.2[i]? with
    | some (some (.lst l)) => if lt24 l.length then some (.nx (p.2.set i (some (.lst (l ++ [d]))))) else none
    | _ => none
  | some (some (.acc _ _)) => (fe ρ).bind fun p => (fz p.1).bind fun d => match p.2[i]? with
    | some (some (.acc n r)) => if lt24 n then some (.nx (p.2.set i (some (.acc (n + 1) (d :: r))))) else none
    | _ => none
  | _ => none
theorem s_appendE (i : Nat) (he : DE X e fe) (hN : X.N[i]? = some x := by rfl) (hv : Vis X.env.scope x := by first | exact Or.inl rfl | exact Or.inr (Or.inl rfl) | exact Or.inr (Or.inr rfl)) (hd : (x == ("__debug__" : Str)) = false := by decide)
    (hcd : (x == ("__classdict__" : Str)) = false := by decide) (hfew : ((backTo cpos (starEach [e] X.env)).all (fun x => !x.1) && (backToKw cpos (keywordEach [] X.env)).all (fun x => x.1.isSome) && decide (([e] : List Expr).length + ([] : List Keyword).length + (if ([] : List Keyword).isEmpty then 0 else 1) < 30)) = true := by rfl) (hln : (apos.endLine == cpos.line) = true := by rfl) (hs : starEach [e] X.env = (false, eval e X.env) :: starEach [] X.env := by rfl) (hq : swapsWith (.Call (.Attribute (.Name x npos) "append" apos) [e] [] cpos) none pos.line X.env = pure false := by rfl) :
    DS X B (.Expr (.Call (.Attribute (.Name x npos) "append" apos) [e] [] cpos) pos) (fAppE i fe) := PS.imp (ps_expr (pe_bm PySem.F.plainAttrs_list PySem.F.slot_list_append PySem.F.type_list_append mt_append (pe_var hN hv hd hcd) (pa_cons he pa_nil hs) (hfew := hfew) (hline := hln) (hs := hs)) hq) fun D σ H h => by
  obtain ⟨Z, ρ, fp, r, S, e, k⟩ := h
  unfold fAppE at e
  split at e
  · rename_i l0 el0
    obtain ⟨⟨o1, ρ1⟩, e1, e⟩ := bind_some e
    obtain ⟨d, ed, e⟩ := bind_some e
    split at e
    · rename_i l el
      split at e
      · rename_i c
        cases e
        obtain ⟨v, g, h1, h2, _, _⟩ := S.write el0
        obtain ⟨a, vs0, rfl, rfl, h3, _⟩ := lst_of h2
        refine ⟨.ref a, h1, .inl ⟨rfl, vs0, .of h3⟩, Z, ρ, fp, o1, ρ1, S, e1, fun Z1 H1 v1 g1 fp1 r1 S1 ow a1 => ?_⟩
        obtain ⟨Z2, S2, d1, a2⟩ := frzE S1 r1 ow a1 S.own ed
        obtain ⟨v', g', h1', h2', ow', wr⟩ := S2.write el
        rw [h1] at h1'
        cases h1'
        obtain ⟨a', vs', q, rfl, h3', h4'⟩ := lst_of h2'
        cases q
        refine ⟨a, vs', v1, rfl, rfl, h3', by rw [h4'.length]; exact lt24_ok c, ?_⟩
        have nz : ¬ Z2 a := ow'.nz a List.mem_cons_self
        have nt : ∀ xs, H1 a ≠ some (.tup xs) := fun xs q => by rw [h3'] at q; cases q
        obtain ⟨fp', S3, _, f3⟩ := wr _ (upd H1 a (.lst (vs' ++ [v1]))) (.lst (l ++ [d])) [a] [] (Fr.upd1 ⟨_, h3'⟩ List.mem_cons_self) (.lst upd_same ((h4'.upd nz nt).append (.cons (d1.upd nz nt) .nil))) (ow'.upd1 trivial)
        exact k _ _ σ fp' S3 (a2.trans f3) .rfl
      · cases e
    · cases e
  · rename_i n0 r0 el0
    obtain ⟨⟨o1, ρ1⟩, e1, e⟩ := bind_some e
    obtain ⟨d, ed, e⟩ := bind_some e
    split at e
    · rename_i n r el
      split at e
      · rename_i c
        cases e
        obtain ⟨v, g, h1, h2, _, _⟩ := S.write el0
        obtain ⟨a, vs0, rfl, rfl, h3, _, _⟩ := acc_of h2
        refine ⟨.ref a, h1, .inl ⟨rfl, vs0, .of h3⟩, Z, ρ, fp, o1, ρ1, S, e1, fun Z1 H1 v1 g1 fp1 r1 S1 ow a1 => ?_⟩
        obtain ⟨Z2, S2, d1, a2⟩ := frzE S1 r1 ow a1 S.own ed
        obtain ⟨v', g', h1', h2', ow', wr⟩ := S2.write el
        rw [h1] at h1'
        cases h1'
        obtain ⟨a', vs', q, rfl, h3', h4', hn⟩ := acc_of h2'
        cases q
        have hlen : vs'.length < sizeLine := by
          have q := h4'.length
          rw [List.length_reverse, ← hn] at q
          rw [q]; exact lt24_ok c
        refine ⟨a, vs', v1, rfl, rfl, h3', hlen, ?_⟩
        have nz : ¬ Z2 a := ow'.nz a List.mem_cons_self
        have nt : ∀ xs, H1 a ≠ some (.tup xs) := fun xs q => by rw [h3'] at q; cases q
        have new := (h4'.upd (o := .lst (vs' ++ [v1])) nz nt).append (.cons (d1.upd nz nt) .nil)
        rw [← List.reverse_cons] at new
        obtain ⟨fp', S3, _, f3⟩ := wr _ (upd H1 a (.lst (vs' ++ [v1]))) (.acc (n + 1) (d :: r)) [a] [] (Fr.upd1 ⟨_, h3'⟩ List.mem_cons_self) (.acc upd_same new (by rw [hn]; rfl)) (ow'.upd1 trivial)
        exact k _ _ σ fp' S3 (a2.trans f3) .rfl
      · cases e
    · cases e
  · cases e
end
end DL

namespace DL
open PySem PySem.Spec PyProof.Rows L2
/-! ## slices whose parts write -/
abbrev FOE := Env → Option (Option Int × Env)
def tOE (K : PySem.W.Frag) (f : FOE) : TO := fun σ H Q => ∃ Z ρ fp o ρ', Stt K Z H σ ρ fp ∧ f ρ = some (o, ρ') ∧ ∀ Z' H' fp', Stt K Z' H' σ ρ' fp' → Fr H fp Z H' fp' Z' → Q o H'
def oNoneE : FOE := fun ρ => some (none, ρ)
def oSomeE (f : FE) : FOE := fun ρ => (f ρ).bind fun p => (asI p.1).bind fun i => some (some i, p.2)
def eSl (f : FE) (lo hi : FOE) : FE := fun ρ => (f ρ).bind fun p => (fz p.1).bind fun d => (lo p.2).bind fun a => (hi a.2).bind fun b => (slO (.fr d) a.1 b.1).bind fun o => some (o, b.2)
section
variable {X : Cx} {K : PySem.W.Frag} {Z : Zs} {H : Hp} {e : Expr} {f : FE} {lo hi : Option Expr} {fl fh : FOE} {p2 pos : Pos}
theorem pe_none : PO X none (tOE X.K oNoneE) := PO.imp po_none fun σ H Q h => by
  obtain ⟨Z, ρ, fp, o, ρ', S, e, k⟩ := h
  cases e
  exact k Z H fp S .refl
theorem pe_some (h : DE X e f) : PO X (some e) (tOE X.K (oSomeE f)) := PO.imp (po_some h) fun σ H Q h => by
  obtain ⟨Z, ρ, fp, o, ρ', S, e, k⟩ := h
  obtain ⟨⟨x, ρ1⟩, ex, e⟩ := bind_some e
  obtain ⟨i, ei, e⟩ := bind_some e
  cases e
  exact ⟨Z, ρ, fp, x, ρ1, S, ex, fun Z1 H1 v1 g1 fp1 r1 S1 ow a1 => ⟨i, asI_rep r1 ei, k Z1 H1 fp1 S1 (a1.less fun b m => List.mem_append_right _ m)⟩⟩
theorem e_sl (hp : DE X e f) (hl : PO X lo (tOE X.K fl)) (hh : PO X hi (tOE X.K fh)) : DE X (.Subscript e (.Slice lo hi none p2) pos) (eSl f fl fh) := PE.imp (pe_slice (SlR.or sl_list sl_tupA) hp hl hh) fun σ H Q h => by
  obtain ⟨Z, ρ, fp, o, ρ', S, e, k⟩ := h
  obtain ⟨⟨x, ρ1⟩, ex, e⟩ := bind_some e
  obtain ⟨d, ed, e⟩ := bind_some e
  obtain ⟨⟨a, ρ2⟩, ea, e⟩ := bind_some e
  obtain ⟨⟨b, ρ3⟩, eb, e⟩ := bind_some e
  obtain ⟨o3, eo, e⟩ := bind_some e
  cases e
  refine ⟨Z, ρ, fp, x, ρ1, S, ex, fun Z1 H1 v1 g1 fp1 r1 S1 ow1 a1 => ?_⟩
  obtain ⟨Y1, T1, dz1, b1⟩ := frzE S1 r1 ow1 a1 S.own ed
  refine ⟨Y1, ρ1, fp1, a, ρ2, T1, ea, fun Z2 H2 fp2 S2 a2 => ⟨Z2, ρ2, fp2, b, ρ3, S2, eb, fun Z3 H3 fp3 S3 a3 => ?_⟩⟩
  have dz3 : DpZ X.K Z3 H3 v1 d := (dz1.kp (a2.kp T1.own)).kp (a3.kp S2.own)
  have k' : Rst X.K Z3 H3 o Q := Rst.behind S S3 ((b1.trans a2).trans a3) k
  have r3 : RepO X.K Z3 H3 v1 (.fr d) [] := .fr dz3
  unfold slO at eo
  split at eo
  · rename_i l h0
    cases h0
    cases eo
    obtain ⟨t, vs, rfl, s, q⟩ := asTup_rep r3 rfl
    refine .inr ⟨t, vs, rfl, s, fun hw => ?_, fun _ => k'.tup (q.cut _ _)⟩
    rw [q.length] at hw
    rw [cutD_whole hw] at k'
    exact k'.flat dz3
  · rename_i l h0
    cases h0
    cases eo
    obtain ⟨t, vs, rfl, s, q⟩ := asLst_rep r3 rfl
    exact .inl ⟨t, vs, rfl, .of s, k'.lst (q.cut _ _) S3.za⟩
  · rename_i l h0
    cases h0
  · cases eo
end
end DL

namespace DL
open PySem PySem.Spec PyProof.Rows L2
/-! ## d.get(k, x) -/
def getG (x y z : Ob) : Option Ob := (asD z).bind fun dz => match x with
  | .dk l => (asD y).bind fun d => (dkey d).bind fun k => some (.fr ((valD l k).getD dz))
  | .dt l => (asD y).bind fun d => (dkeyT d).bind fun k => some (.fr ((valD l k).getD dz))
  | _ => none
def oGet (fo fe ff : F1) : F1 := fun ρ => (fo ρ).bind fun x => (fe ρ).bind fun y => (ff ρ).bind fun z => getG x y z
section
variable {X : Cx} {o e f : Expr} {apos cpos : Pos} {fo fe ff : F1}
theorem get_rep {K : PySem.W.Frag} {Z : Zs} {H : Hp} {v u w : V} {x y z r : Ob} {g g1 g2 : List Addr} {Q : VK} (r1 : RepO K Z H v x g) (r2 : RepO K Z H u y g1) (r3 : RepO K Z H w z g2) (h : getG x y z = some r) (k : Rst K Z H r Q) :
    ∃ a, v = .ref a ∧ IsD H a ∧ ∃ o, DGet H a u o ∧ Q (o.getD w) H := by
  unfold getG at h
  obtain ⟨dz, ez, h⟩ := bind_some h
  obtain ⟨d3, rfl⟩ := asD_rep r3 ez
  cases x with
  | dk l =>
    obtain ⟨d, ed, h⟩ := bind_some h
    obtain ⟨kk, ek, h⟩ := bind_some h
    cases h
    cases r1 with
    | @dk a kvs kds ha hv =>
      obtain ⟨d2, rfl⟩ := asD_rep r2 ed
      have hu := dkey_rep d2 ek
      subst hu
      refine ⟨a, rfl, .inl ⟨_, .inl ha⟩, valV kvs kk, DGet.k ha, ?_⟩
      rcases hv.val kk with ⟨e1, e2⟩ | ⟨q, w2, e1, e2, e3⟩
      · rw [e2]; rw [e1] at k; exact k.flat d3
      · rw [e2]; rw [e1] at k; exact k.flat e3
  | dt l =>
    obtain ⟨d, ed, h⟩ := bind_some h
    obtain ⟨kk, ek, h⟩ := bind_some h
    cases h
    cases r1 with
    | @dt a kvs kds ha hv =>
      obtain ⟨d2, rfl⟩ := asD_rep r2 ed
      obtain ⟨b, rfl, hb⟩ := dkeyT_rep d2 ek
      refine ⟨a, rfl, .inr ⟨_, .inl ha⟩, valV kvs kk, DGet.t ha hb, ?_⟩
      rcases hv.val kk with ⟨e1, e2⟩ | ⟨q, w2, e1, e2, e3⟩
      · rw [e2]; rw [e1] at k; exact k.flat d3
      · rw [e2]; rw [e1] at k; exact k.flat e3
  | _ => cases h
theorem d_get2 (hu : X.A.units + 64 < cLine) (ho : PR X o fo) (he : PR X e fe) (hf : PR X f ff) (hbase : attributeBase o "get" X.env (eval o X.env) = eval o X.env := by rfl)
    (hfew : ((backTo cpos (starEach [e, f] X.env)).all (fun x => !x.1) && (backToKw cpos (keywordEach [] X.env)).all (fun x => x.1.isSome) && decide (([e, f] : List Expr).length + ([] : List Keyword).length + (if ([] : List Keyword).isEmpty then 0 else 1) < 30)) = true := by rfl) (hln : (apos.endLine == cpos.line) = true := by rfl) (ht : backTo cpos (starEach [e, f] X.env) = [(false, eval e X.env), (false, eval f X.env)] := by rfl) :
    DP X (.Call (.Attribute o "get" apos) [e, f] [] cpos) (oGet fo fe ff) := PE.imp (pe_dget2 (by omega) ho he hf ⟨hbase, hfew, hln, ht⟩) fun σ H Q h => by
  obtain ⟨Z, ρ, fp, r, S, e, k⟩ := h
  obtain ⟨x, ex, e⟩ := bind_some e
  obtain ⟨y, ey, e⟩ := bind_some e
  obtain ⟨z, ez, e⟩ := bind_some e
  refine ⟨Z, ρ, fp, x, S, ex, fun Z1 H1 v g r1 a1 => ?_⟩
  have isd : ∃ a, v = .ref a ∧ IsD H1 a := by
    unfold getG at e
    obtain ⟨dz, _, e⟩ := bind_some e
    cases x with
    | dk l => cases r1 with | dk ha _ => exact ⟨_, rfl, .inl ⟨_, .inl ha⟩⟩
    | dt l => cases r1 with | dt ha _ => exact ⟨_, rfl, .inr ⟨_, .inl ha⟩⟩
    | _ => cases e
  obtain ⟨a, rfl, ha⟩ := isd
  refine ⟨a, rfl, ha, Z1, ρ, fp, y, S.still a1, ey, fun Z2 H2 u g1 r2 a2 => ⟨Z2, ρ, fp, z, (S.still a1).still a2, ez, fun Z3 H3 w g2 r3 a3 => ?_⟩⟩
  obtain ⟨a', q, _, oo, hg, hq⟩ := get_rep ((r1.still a2).still a3) (r2.still a3) r3 e fun Z4 H4 v4 g4 r4 o4 a4 => k Z4 H4 v4 g4 r4 o4 (((a1.trans a2).trans a3).trans a4)
  cases q
  exact ⟨oo, hg, hq⟩
end
end DL

namespace LW
open PySem PySem.Spec PyProof.Rows L2 DL
def top (i : Nat) : Stmt := PySem.Challenge.pw_placesdefended_k29_whole_rooks_counted_b.main.body.getD i (.Pass ⟨0, 0, 0, 0⟩)
def t_STEPS : List (Str × List (List Int)) := [((PySem.Str.ofString "rook"), [[0, 1], [1, 0]]), ((PySem.Str.ofString "bishop"), [[1, 1], [1, -1]]), ((PySem.Str.ofString "queen"), [[0, 1], [1, 0], [1, 1], [1, -1]]), ((PySem.Str.ofString "king"), [[0, 1], [1, 0], [1, 1], [1, -1]]), ((PySem.Str.ofString "knight"), [[1, 2], [2, 1], [1, -2], [2, -1]])]
/-! ## the head -/
structure Hd (w : World) (K : PySem.W.Frag) (mg : Str → Option Value) : Prop where
  fr_abs : mg (PySem.Str.ofString "abs") = none
  fr_any : mg (PySem.Str.ofString "any") = none
  fr_enumerate : mg (PySem.Str.ofString "enumerate") = none
  fr_int : mg (PySem.Str.ofString "int") = none
  fr_len : mg (PySem.Str.ofString "len") = none
  fr_list : mg (PySem.Str.ofString "list") = none
  fr_max : mg (PySem.Str.ofString "max") = none
  fr_min : mg (PySem.Str.ofString "min") = none
  fr_range : mg (PySem.Str.ofString "range") = none
  fr_sorted : mg (PySem.Str.ofString "sorted") = none
  fr_sum : mg (PySem.Str.ofString "sum") = none
  fr_tuple : mg (PySem.Str.ofString "tuple") = none
  gl_STEPS : mg (PySem.Str.ofString "STEPS") = some (.ref (He.ga K (PySem.Str.ofString "STEPS")))
  tab_STEPS : KTab K w (He.ga K (PySem.Str.ofString "STEPS")) t_STEPS
  gl_times_itself : mg (PySem.Str.ofString "times_itself") = some (.ref (He.ga K (PySem.Str.ofString "times_itself")))
  fd_times_itself : ∃ fd, FunD K (PySem.Str.ofString "times_itself") (PySem.Str.ofString "times_itself") (defArgs (top 1)) (defBody (top 1)) (defScope (top 1)) [] [] (He.ga K (PySem.Str.ofString "times_itself")) fd
  gl_falling_product : mg (PySem.Str.ofString "falling_product") = some (.ref (He.ga K (PySem.Str.ofString "falling_product")))
  fd_falling_product : ∃ fd, FunD K (PySem.Str.ofString "falling_product") (PySem.Str.ofString "falling_product") (defArgs (top 2)) (defBody (top 2)) (defScope (top 2)) [] [] (He.ga K (PySem.Str.ofString "falling_product")) fd
  gl_rook_number : mg (PySem.Str.ofString "rook_number") = some (.ref (He.ga K (PySem.Str.ofString "rook_number")))
  fd_rook_number : ∃ fd, FunD K (PySem.Str.ofString "rook_number") (PySem.Str.ofString "rook_number") (defArgs (top 3)) (defBody (top 3)) (defScope (top 3)) [] [] (He.ga K (PySem.Str.ofString "rook_number")) fd
  gl_rook_lots : mg (PySem.Str.ofString "rook_lots") = some (.ref (He.ga K (PySem.Str.ofString "rook_lots")))
  fd_rook_lots : ∃ fd, FunD K (PySem.Str.ofString "rook_lots") (PySem.Str.ofString "rook_lots") (defArgs (top 4)) (defBody (top 4)) (defScope (top 4)) [] [] (He.ga K (PySem.Str.ofString "rook_lots")) fd
  gl_rook_peaces : mg (PySem.Str.ofString "rook_peaces") = some (.ref (He.ga K (PySem.Str.ofString "rook_peaces")))
  fd_rook_peaces : ∃ fd, FunD K (PySem.Str.ofString "rook_peaces") (PySem.Str.ofString "rook_peaces") (defArgs (top 5)) (defBody (top 5)) (defScope (top 5)) [] [] (He.ga K (PySem.Str.ofString "rook_peaces")) fd
  gl_watch_as_rooks : mg (PySem.Str.ofString "watch_as_rooks") = some (.ref (He.ga K (PySem.Str.ofString "watch_as_rooks")))
  fd_watch_as_rooks : ∃ fd, FunD K (PySem.Str.ofString "watch_as_rooks") (PySem.Str.ofString "watch_as_rooks") (defArgs (top 6)) (defBody (top 6)) (defScope (top 6)) [] [] (He.ga K (PySem.Str.ofString "watch_as_rooks")) fd
  gl_all_squares : mg (PySem.Str.ofString "all_squares") = some (.ref (He.ga K (PySem.Str.ofString "all_squares")))
  fd_all_squares : ∃ fd, FunD K (PySem.Str.ofString "all_squares") (PySem.Str.ofString "all_squares") (defArgs (top 9)) (defBody (top 9)) (defScope (top 9)) [] [] (He.ga K (PySem.Str.ofString "all_squares")) fd
  gl_how_far : mg (PySem.Str.ofString "how_far") = some (.ref (He.ga K (PySem.Str.ofString "how_far")))
  fd_how_far : ∃ fd, FunD K (PySem.Str.ofString "how_far") (PySem.Str.ofString "how_far") (defArgs (top 10)) (defBody (top 10)) (defScope (top 10)) [] [] (He.ga K (PySem.Str.ofString "how_far")) fd
  gl_reached_squares : mg (PySem.Str.ofString "reached_squares") = some (.ref (He.ga K (PySem.Str.ofString "reached_squares")))
  fd_reached_squares : ∃ fd, FunD K (PySem.Str.ofString "reached_squares") (PySem.Str.ofString "reached_squares") (defArgs (top 11)) (defBody (top 11)) (defScope (top 11)) [] [] (He.ga K (PySem.Str.ofString "reached_squares")) fd
  gl_watched_squares : mg (PySem.Str.ofString "watched_squares") = some (.ref (He.ga K (PySem.Str.ofString "watched_squares")))
  fd_watched_squares : ∃ fd, FunD K (PySem.Str.ofString "watched_squares") (PySem.Str.ofString "watched_squares") (defArgs (top 12)) (defBody (top 12)) (defScope (top 12)) [] [] (He.ga K (PySem.Str.ofString "watched_squares")) fd
  gl_is_watching_board : mg (PySem.Str.ofString "is_watching_board") = some (.ref (He.ga K (PySem.Str.ofString "is_watching_board")))
  fd_is_watching_board : ∃ fd, FunD K (PySem.Str.ofString "is_watching_board") (PySem.Str.ofString "is_watching_board") (defArgs (top 13)) (defBody (top 13)) (defScope (top 13)) [] [] (He.ga K (PySem.Str.ofString "is_watching_board")) fd
  gl_is_at_peace : mg (PySem.Str.ofString "is_at_peace") = some (.ref (He.ga K (PySem.Str.ofString "is_at_peace")))
  fd_is_at_peace : ∃ fd, FunD K (PySem.Str.ofString "is_at_peace") (PySem.Str.ofString "is_at_peace") (defArgs (top 14)) (defBody (top 14)) (defScope (top 14)) [] [] (He.ga K (PySem.Str.ofString "is_at_peace")) fd
  gl_next_lots : mg (PySem.Str.ofString "next_lots") = some (.ref (He.ga K (PySem.Str.ofString "next_lots")))
  fd_next_lots : ∃ fd, FunD K (PySem.Str.ofString "next_lots") (PySem.Str.ofString "next_lots") (defArgs (top 15)) (defBody (top 15)) (defScope (top 15)) [] [] (He.ga K (PySem.Str.ofString "next_lots")) fd
  gl_least_lots : mg (PySem.Str.ofString "least_lots") = some (.ref (He.ga K (PySem.Str.ofString "least_lots")))
  fd_least_lots : ∃ fd, FunD K (PySem.Str.ofString "least_lots") (PySem.Str.ofString "least_lots") (defArgs (top 16)) (defBody (top 16)) (defScope (top 16)) [] [] (He.ga K (PySem.Str.ofString "least_lots")) fd
  gl_least_pieces : mg (PySem.Str.ofString "least_pieces") = some (.ref (He.ga K (PySem.Str.ofString "least_pieces")))
  fd_least_pieces : ∃ fd, FunD K (PySem.Str.ofString "least_pieces") (PySem.Str.ofString "least_pieces") (defArgs (top 17)) (defBody (top 17)) (defScope (top 17)) [] [] (He.ga K (PySem.Str.ofString "least_pieces")) fd
  gl_peaceful_next : mg (PySem.Str.ofString "peaceful_next") = some (.ref (He.ga K (PySem.Str.ofString "peaceful_next")))
  fd_peaceful_next : ∃ fd, FunD K (PySem.Str.ofString "peaceful_next") (PySem.Str.ofString "peaceful_next") (defArgs (top 18)) (defBody (top 18)) (defScope (top 18)) [] [] (He.ga K (PySem.Str.ofString "peaceful_next")) fd
  gl_most_at_peace : mg (PySem.Str.ofString "most_at_peace") = some (.ref (He.ga K (PySem.Str.ofString "most_at_peace")))
  fd_most_at_peace : ∃ fd, FunD K (PySem.Str.ofString "most_at_peace") (PySem.Str.ofString "most_at_peace") (defArgs (top 19)) (defBody (top 19)) (defScope (top 19)) [] [] (He.ga K (PySem.Str.ofString "most_at_peace")) fd
  gl__law_source : mg (PySem.Str.ofString "_law_source") = some (.ref (He.ga K (PySem.Str.ofString "_law_source")))
  fd__law_source : ∃ fd, FunD K (PySem.Str.ofString "_law_source") (PySem.Str.ofString "_law_source") (defArgs (top 21)) (defBody (top 21)) (defScope (top 21)) [] [] (He.ga K (PySem.Str.ofString "_law_source")) fd
  gl__law_pick : mg (PySem.Str.ofString "_law_pick") = some (.ref (He.ga K (PySem.Str.ofString "_law_pick")))
  fd__law_pick : ∃ fd, FunD K (PySem.Str.ofString "_law_pick") (PySem.Str.ofString "_law_pick") (defArgs (top 22)) (defBody (top 22)) (defScope (top 22)) [] [] (He.ga K (PySem.Str.ofString "_law_pick")) fd
  gl__law_of : mg (PySem.Str.ofString "_law_of") = some (.ref (He.ga K (PySem.Str.ofString "_law_of")))
  fd__law_of : ∃ fd, FunD K (PySem.Str.ofString "_law_of") (PySem.Str.ofString "_law_of") (defArgs (top 23)) (defBody (top 23)) (defScope (top 23)) [] [] (He.ga K (PySem.Str.ofString "_law_of")) fd
  gl__law_mixed : mg (PySem.Str.ofString "_law_mixed") = some (.ref (He.ga K (PySem.Str.ofString "_law_mixed")))
  fd__law_mixed : ∃ fd, FunD K (PySem.Str.ofString "_law_mixed") (PySem.Str.ofString "_law_mixed") (defArgs (top 24)) (defBody (top 24)) (defScope (top 24)) [] [] (He.ga K (PySem.Str.ofString "_law_mixed")) fd
  gl__law_all_lots : mg (PySem.Str.ofString "_law_all_lots") = some (.ref (He.ga K (PySem.Str.ofString "_law_all_lots")))
  fd__law_all_lots : ∃ fd, FunD K (PySem.Str.ofString "_law_all_lots") (PySem.Str.ofString "_law_all_lots") (defArgs (top 25)) (defBody (top 25)) (defScope (top 25)) [] [] (He.ga K (PySem.Str.ofString "_law_all_lots")) fd
  gl__law_choose : mg (PySem.Str.ofString "_law_choose") = some (.ref (He.ga K (PySem.Str.ofString "_law_choose")))
  fd__law_choose : ∃ fd, FunD K (PySem.Str.ofString "_law_choose") (PySem.Str.ofString "_law_choose") (defArgs (top 26)) (defBody (top 26)) (defScope (top 26)) [] [] (He.ga K (PySem.Str.ofString "_law_choose")) fd
  gl__law_squares : mg (PySem.Str.ofString "_law_squares") = some (.ref (He.ga K (PySem.Str.ofString "_law_squares")))
  fd__law_squares : ∃ fd, FunD K (PySem.Str.ofString "_law_squares") (PySem.Str.ofString "_law_squares") (defArgs (top 27)) (defBody (top 27)) (defScope (top 27)) [] [] (He.ga K (PySem.Str.ofString "_law_squares")) fd
  gl__law_all_watching : mg (PySem.Str.ofString "_law_all_watching") = some (.ref (He.ga K (PySem.Str.ofString "_law_all_watching")))
  fd__law_all_watching : ∃ fd, FunD K (PySem.Str.ofString "_law_all_watching") (PySem.Str.ofString "_law_all_watching") (defArgs (top 28)) (defBody (top 28)) (defScope (top 28)) [] [] (He.ga K (PySem.Str.ofString "_law_all_watching")) fd
  gl__law_arrangements : mg (PySem.Str.ofString "_law_arrangements") = some (.ref (He.ga K (PySem.Str.ofString "_law_arrangements")))
  fd__law_arrangements : ∃ fd, FunD K (PySem.Str.ofString "_law_arrangements") (PySem.Str.ofString "_law_arrangements") (defArgs (top 29)) (defBody (top 29)) (defScope (top 29)) [] [] (He.ga K (PySem.Str.ofString "_law_arrangements")) fd
  gl__law_within : mg (PySem.Str.ofString "_law_within") = some (.ref (He.ga K (PySem.Str.ofString "_law_within")))
  fd__law_within : ∃ fd, FunD K (PySem.Str.ofString "_law_within") (PySem.Str.ofString "_law_within") (defArgs (top 30)) (defBody (top 30)) (defScope (top 30)) [] [] (He.ga K (PySem.Str.ofString "_law_within")) fd
  gl__law_hits_right : mg (PySem.Str.ofString "_law_hits_right") = some (.ref (He.ga K (PySem.Str.ofString "_law_hits_right")))
  fd__law_hits_right : ∃ fd, FunD K (PySem.Str.ofString "_law_hits_right") (PySem.Str.ofString "_law_hits_right") (defArgs (top 31)) (defBody (top 31)) (defScope (top 31)) [] [] (He.ga K (PySem.Str.ofString "_law_hits_right")) fd
  gl_law : mg (PySem.Str.ofString "law") = some (.ref (He.ga K (PySem.Str.ofString "law")))
  fd_law : ∃ fd, FunD K (PySem.Str.ofString "law") (PySem.Str.ofString "law") (defArgs (top 32)) (defBody (top 32)) (defScope (top 32)) [] [] (He.ga K (PySem.Str.ofString "law")) fd
variable {P : Program} {w : World} {K : PySem.W.Frag} {mg : Str → Option Value} {base : Heap}
/-! ### times_itself -/
theorem sc_times_itself : FnScope [(PySem.Str.ofString "a"), (PySem.Str.ofString "k"), (PySem.Str.ofString "found"), (PySem.Str.ofString "lap")] [(PySem.Str.ofString "a"), (PySem.Str.ofString "k")] (defScope (top 1)) := ⟨rfl, rfl, rfl, by decide +kernel, rfl, by decide +kernel, by decide +kernel⟩
def b_times_itself : FS := (fSeq (fSet 2 (kO (.int 1))) (fSeq (fFor (iRng1 (lCons (rdV 1) lNil)) (gN 3) (fSeq (fSet 2 (o2 mulO (rdV 2) (rdV 0))) (fSeq (fFz 2) fNx))) (fRet (frV 2))))
def F_times_itself : Fn := fnOf 4 b_times_itself
theorem fn_times_itself (hd : Hd w K mg) {fd : FuncData} (Fd : FunD K (PySem.Str.ofString "times_itself") (PySem.Str.ofString "times_itself") (defArgs (top 1)) (defBody (top 1)) (defScope (top 1)) [] [] (He.ga K (PySem.Str.ofString "times_itself")) fd) : FnOk P w K mg base CX0 1 (He.ga K (PySem.Str.ofString "times_itself")) fd [(PySem.Str.ofString "a"), (PySem.Str.ofString "k")] (spP K 2 F_times_itself) := by
  refine fn_ok Fd sc_times_itself rfl rfl fun cdv A outer s H E hr => ?_
  have hu := hr.units
  have hND := sc_times_itself.nd
  exact (s_cons (s_set 2 hND d_int) (s_cons (s_for PassesOwn.never rfl (i_range1 rfl hd.fr_range (ra_cons (r_var 1) ra_nil)) (g_name 3 hND) (s_cons (s_set 2 hND (d_op2 op_mulO rd_mulO (r_var 2) (r_var 0))) (s_fz 2 s_nil))) (s_one (s_ret (d_var 2)))))
theorem ok_times_itself (hd : Hd w K mg) : Fok P w K mg base 1 (PySem.Str.ofString "times_itself") [(PySem.Str.ofString "a"), (PySem.Str.ofString "k")] (spP K 2 F_times_itself) := by
  obtain ⟨fd, Fd⟩ := hd.fd_times_itself
  exact ⟨⟨fd, fn_times_itself hd Fd, Fd.bindsN fun _ _ _ _ _ _ us hl => match us, hl with | [_, _], _ => rfl⟩, hd.gl_times_itself, Fd.kp⟩
/-! ### falling_product -/
theorem sc_falling_product : FnScope [(PySem.Str.ofString "n"), (PySem.Str.ofString "k"), (PySem.Str.ofString "found"), (PySem.Str.ofString "i")] [(PySem.Str.ofString "n"), (PySem.Str.ofString "k")] (defScope (top 2)) := ⟨rfl, rfl, rfl, by decide +kernel, rfl, by decide +kernel, by decide +kernel⟩
def b_falling_product : FS := (fSeq (fSet 2 (kO (.int 1))) (fSeq (fFor (iRng1 (lCons (rdV 1) lNil)) (gN 3) (fSeq (fSet 2 (o2 mulO (rdV 2) (o2 subI (rdV 0) (rdV 3)))) (fSeq (fFz 2) fNx))) (fRet (frV 2))))
def F_falling_product : Fn := fnOf 4 b_falling_product
theorem fn_falling_product (hd : Hd w K mg) {fd : FuncData} (Fd : FunD K (PySem.Str.ofString "falling_product") (PySem.Str.ofString "falling_product") (defArgs (top 2)) (defBody (top 2)) (defScope (top 2)) [] [] (He.ga K (PySem.Str.ofString "falling_product")) fd) : FnOk P w K mg base CX0 1 (He.ga K (PySem.Str.ofString "falling_product")) fd [(PySem.Str.ofString "n"), (PySem.Str.ofString "k")] (spP K 2 F_falling_product) := by
  refine fn_ok Fd sc_falling_product rfl rfl fun cdv A outer s H E hr => ?_
  have hu := hr.units
  have hND := sc_falling_product.nd
  exact (s_cons (s_set 2 hND d_int) (s_cons (s_for PassesOwn.never rfl (i_range1 rfl hd.fr_range (ra_cons (r_var 1) ra_nil)) (g_name 3 hND) (s_cons (s_set 2 hND (d_op2 op_mulO rd_mulO (r_var 2) (DP.pr (d_op2 op_sub rd_sub (r_var 0) (r_var 3))))) (s_fz 2 s_nil))) (s_one (s_ret (d_var 2)))))
theorem ok_falling_product (hd : Hd w K mg) : Fok P w K mg base 1 (PySem.Str.ofString "falling_product") [(PySem.Str.ofString "n"), (PySem.Str.ofString "k")] (spP K 2 F_falling_product) := by
  obtain ⟨fd, Fd⟩ := hd.fd_falling_product
  exact ⟨⟨fd, fn_falling_product hd Fd, Fd.bindsN fun _ _ _ _ _ _ us hl => match us, hl with | [_, _], _ => rfl⟩, hd.gl_falling_product, Fd.kp⟩
/-! ### rook_number -/
theorem sc_rook_number : FnScope [(PySem.Str.ofString "m"), (PySem.Str.ofString "n")] [(PySem.Str.ofString "m"), (PySem.Str.ofString "n")] (defScope (top 3)) := ⟨rfl, rfl, rfl, by decide +kernel, rfl, by decide +kernel, by decide +kernel⟩
def b_rook_number : FS := (fRet (oL (g2 min2O) (lCons (rdV 0) (lCons (rdV 1) lNil))))
def F_rook_number : Fn := fnOf 2 b_rook_number
theorem fn_rook_number (hd : Hd w K mg) {fd : FuncData} (Fd : FunD K (PySem.Str.ofString "rook_number") (PySem.Str.ofString "rook_number") (defArgs (top 3)) (defBody (top 3)) (defScope (top 3)) [] [] (He.ga K (PySem.Str.ofString "rook_number")) fd) : FnOk P w K mg base CX0 1 (He.ga K (PySem.Str.ofString "rook_number")) fd [(PySem.Str.ofString "m"), (PySem.Str.ofString "n")] (spP K 2 F_rook_number) := by
  refine fn_ok Fd sc_rook_number rfl rfl fun cdv A outer s H E hr => ?_
  have hu := hr.units
  have hND := sc_rook_number.nd
  exact (s_one (s_ret (d_callB (call_min2 rfl) rd_min2 rfl hd.fr_min boot_min (ra_cons (r_var 0) (ra_cons (r_var 1) ra_nil)))))
theorem ok_rook_number (hd : Hd w K mg) : Fok P w K mg base 1 (PySem.Str.ofString "rook_number") [(PySem.Str.ofString "m"), (PySem.Str.ofString "n")] (spP K 2 F_rook_number) := by
  obtain ⟨fd, Fd⟩ := hd.fd_rook_number
  exact ⟨⟨fd, fn_rook_number hd Fd, Fd.bindsN fun _ _ _ _ _ _ us hl => match us, hl with | [_, _], _ => rfl⟩, hd.gl_rook_number, Fd.kp⟩
/-! ### watch_as_rooks -/
theorem sc_watch_as_rooks : FnScope [(PySem.Str.ofString "m"), (PySem.Str.ofString "n"), (PySem.Str.ofString "lot"), (PySem.Str.ofString "r"), (PySem.Str.ofString "c")] [(PySem.Str.ofString "m"), (PySem.Str.ofString "n"), (PySem.Str.ofString "lot")] (defScope (top 6)) := ⟨rfl, rfl, rfl, by decide +kernel, rfl, by decide +kernel, by decide +kernel⟩
def b_watch_as_rooks : FS := (fRet (oOr (o2 eqO (oL (g1 lenA) (lCons (oDc dkey .dk 5 [3, 4] (iSeq (frV 2)) (gT 2 (gCons' (gN 3) (gCons' (gN 4) gNil'))) bYes (frV 3) (kO (.bool true))) lNil)) (rdV 0)) (o2 eqO (oL (g1 lenA) (lCons (oDc dkey .dk 5 [3, 4] (iSeq (frV 2)) (gT 2 (gCons' (gN 3) (gCons' (gN 4) gNil'))) bYes (frV 4) (kO (.bool true))) lNil)) (rdV 1))))
def F_watch_as_rooks : Fn := fnOf 5 b_watch_as_rooks
theorem fn_watch_as_rooks (hd : Hd w K mg) {fd : FuncData} (Fd : FunD K (PySem.Str.ofString "watch_as_rooks") (PySem.Str.ofString "watch_as_rooks") (defArgs (top 6)) (defBody (top 6)) (defScope (top 6)) [] [] (He.ga K (PySem.Str.ofString "watch_as_rooks")) fd) : FnOk P w K mg base CX0 1 (He.ga K (PySem.Str.ofString "watch_as_rooks")) fd [(PySem.Str.ofString "m"), (PySem.Str.ofString "n"), (PySem.Str.ofString "lot")] (spP K 3 F_watch_as_rooks) := by
  refine fn_ok Fd sc_watch_as_rooks rfl rfl fun cdv A outer s H E hr => ?_
  have hu := hr.units
  have hND := sc_watch_as_rooks.nd
  exact (s_one (s_ret (d_or (d_cmp (op_eqG hu) rd_eq (DP.pr (d_callB op_lenA rd_lenA rfl hd.fr_len PySem.boot_len (ra_cons (DP.pr (d_dc (tabK _) (n := 5) [((PySem.Str.ofString "r"), 3), ((PySem.Str.ofString "c"), 4)] hu rfl hND (i_seq (d_var 2)) (blkOk_by (by kernel_rfl)) (fun _ _ _ _ _ => (g_tup rfl (g_cons (g_name 3 hND) (g_cons (g_name 4 hND) g_nil)))) (fun _ _ _ _ _ => ts_nil) (fun _ _ _ _ _ => (d_var 3)) (fun _ _ _ _ _ => d_bl))) ra_nil))) (r_var 0)) (d_one (d_cmp (op_eqG hu) rd_eq (DP.pr (d_callB op_lenA rd_lenA rfl hd.fr_len PySem.boot_len (ra_cons (DP.pr (d_dc (tabK _) (n := 5) [((PySem.Str.ofString "r"), 3), ((PySem.Str.ofString "c"), 4)] hu rfl hND (i_seq (d_var 2)) (blkOk_by (by kernel_rfl)) (fun _ _ _ _ _ => (g_tup rfl (g_cons (g_name 3 hND) (g_cons (g_name 4 hND) g_nil)))) (fun _ _ _ _ _ => ts_nil) (fun _ _ _ _ _ => (d_var 4)) (fun _ _ _ _ _ => d_bl))) ra_nil))) (r_var 1))))))
theorem ok_watch_as_rooks (hd : Hd w K mg) : Fok P w K mg base 1 (PySem.Str.ofString "watch_as_rooks") [(PySem.Str.ofString "m"), (PySem.Str.ofString "n"), (PySem.Str.ofString "lot")] (spP K 3 F_watch_as_rooks) := by
  obtain ⟨fd, Fd⟩ := hd.fd_watch_as_rooks
  exact ⟨⟨fd, fn_watch_as_rooks hd Fd, Fd.bindsN fun _ _ _ _ _ _ us hl => match us, hl with | [_, _, _], _ => rfl⟩, hd.gl_watch_as_rooks, Fd.kp⟩
/-! ### all_squares -/
theorem sc_all_squares : FnScope [(PySem.Str.ofString "m"), (PySem.Str.ofString "n"), (PySem.Str.ofString "r"), (PySem.Str.ofString "c")] [(PySem.Str.ofString "m"), (PySem.Str.ofString "n")] (defScope (top 9)) := ⟨rfl, rfl, rfl, by decide +kernel, rfl, by decide +kernel, by decide +kernel⟩
def b_all_squares : FS := (fRet (oLc2 4 [2, 3] [3] (iRng1 (lCons (rdV 0) lNil)) (gN 2) bYes (iRng1 (lCons (rdV 1) lNil)) (gN 3) bYes (dTup (aCons (frV 2) (aCons (frV 3) aNil)))))
def F_all_squares : Fn := fnOf 4 b_all_squares
theorem fn_all_squares (hd : Hd w K mg) {fd : FuncData} (Fd : FunD K (PySem.Str.ofString "all_squares") (PySem.Str.ofString "all_squares") (defArgs (top 9)) (defBody (top 9)) (defScope (top 9)) [] [] (He.ga K (PySem.Str.ofString "all_squares")) fd) : FnOk P w K mg base CX0 1 (He.ga K (PySem.Str.ofString "all_squares")) fd [(PySem.Str.ofString "m"), (PySem.Str.ofString "n")] (spP K 2 F_all_squares) := by
  refine fn_ok Fd sc_all_squares rfl rfl fun cdv A outer s H E hr => ?_
  have hu := hr.units
  have hND := sc_all_squares.nd
  exact (s_one (s_ret (d_lc2 (n := 4) [((PySem.Str.ofString "r"), 2), ((PySem.Str.ofString "c"), 3)] [3] rfl hND (i_range1 rfl hd.fr_range (ra_cons (r_var 0) ra_nil)) (blkOk_by (by kernel_rfl)) (by decide) (fun _ _ _ _ _ => (g_name 2 hND)) (fun _ _ _ _ _ => ts_nil) (fun _ _ _ _ _ => (i_range1 rfl hd.fr_range (ra_cons (r_var 1) ra_nil))) (fun _ _ _ _ _ => (g_name 3 hND)) (fun _ _ _ _ _ => ts_nil) (fun _ _ _ _ _ => (d_tup (a_cons (d_var 2) (a_cons (d_var 3) a_nil)))))))
theorem ok_all_squares (hd : Hd w K mg) : Fok P w K mg base 1 (PySem.Str.ofString "all_squares") [(PySem.Str.ofString "m"), (PySem.Str.ofString "n")] (spP K 2 F_all_squares) := by
  obtain ⟨fd, Fd⟩ := hd.fd_all_squares
  exact ⟨⟨fd, fn_all_squares hd Fd, Fd.bindsN fun _ _ _ _ _ _ us hl => match us, hl with | [_, _], _ => rfl⟩, hd.gl_all_squares, Fd.kp⟩
/-! ### how_far -/
theorem sc_how_far : FnScope [(PySem.Str.ofString "piece"), (PySem.Str.ofString "m"), (PySem.Str.ofString "n")] [(PySem.Str.ofString "piece"), (PySem.Str.ofString "m"), (PySem.Str.ofString "n")] (defScope (top 10)) := ⟨rfl, rfl, rfl, by decide +kernel, rfl, by decide +kernel, by decide +kernel⟩
def b_how_far : FS := (fRet (oIf (bO (o2 inA (rdV 0) (dTup (aCons (kO (.str (PySem.Str.ofString "king"))) (aCons (kO (.str (PySem.Str.ofString "knight"))) aNil))))) (kO (.int 1)) (oL (g2 max2O) (lCons (rdV 1) (lCons (rdV 2) lNil)))))
def F_how_far : Fn := fnOf 3 b_how_far
theorem fn_how_far (hd : Hd w K mg) {fd : FuncData} (Fd : FunD K (PySem.Str.ofString "how_far") (PySem.Str.ofString "how_far") (defArgs (top 10)) (defBody (top 10)) (defScope (top 10)) [] [] (He.ga K (PySem.Str.ofString "how_far")) fd) : FnOk P w K mg base CX0 1 (He.ga K (PySem.Str.ofString "how_far")) fd [(PySem.Str.ofString "piece"), (PySem.Str.ofString "m"), (PySem.Str.ofString "n")] (spP K 3 F_how_far) := by
  refine fn_ok Fd sc_how_far rfl rfl fun cdv A outer s H E hr => ?_
  have hu := hr.units
  have hND := sc_how_far.nd
  exact (s_one (s_ret (d_if (t_cmp (op_inB hu) rd_inB (r_var 0) (DP.pr (d_tup (a_cons d_str (a_cons d_str a_nil))))) d_int (d_callB (call_max2 rfl) rd_max2 rfl hd.fr_max boot_max (ra_cons (r_var 1) (ra_cons (r_var 2) ra_nil))))))
theorem ok_how_far (hd : Hd w K mg) : Fok P w K mg base 1 (PySem.Str.ofString "how_far") [(PySem.Str.ofString "piece"), (PySem.Str.ofString "m"), (PySem.Str.ofString "n")] (spP K 3 F_how_far) := by
  obtain ⟨fd, Fd⟩ := hd.fd_how_far
  exact ⟨⟨fd, fn_how_far hd Fd, Fd.bindsN fun _ _ _ _ _ _ us hl => match us, hl with | [_, _, _], _ => rfl⟩, hd.gl_how_far, Fd.kp⟩
/-! ### next_lots -/
theorem sc_next_lots : FnScope [(PySem.Str.ofString "lots"), (PySem.Str.ofString "squares"), (PySem.Str.ofString "found"), (PySem.Str.ofString "lot"), (PySem.Str.ofString "square")] [(PySem.Str.ofString "lots"), (PySem.Str.ofString "squares")] (defScope (top 15)) := ⟨rfl, rfl, rfl, by decide +kernel, rfl, by decide +kernel, by decide +kernel⟩
def b_next_lots : FS := (fSeq (fSet 2 (dLst aNil)) (fSeq (fAcc 2) (fSeq (fFor (iSeq (frV 0)) (gN 3) (fExt 2 (oLc 5 [4] (iSeq (frV 1)) (gN 4) (bOr (bO (o2 eqO (rdV 3) (dTup aNil))) (bO (o2 gtA (rdV 4) (o2 ixA (rdV 3) (o1 negI (kO (.int 1))))))) (dTup (aStar (rdV 3) (aCons (frV 4) aNil)))))) (fSeq (fFz 2) (fRet (frV 2))))))
def F_next_lots : Fn := fnOf 5 b_next_lots
theorem fn_next_lots (hd : Hd w K mg) {fd : FuncData} (Fd : FunD K (PySem.Str.ofString "next_lots") (PySem.Str.ofString "next_lots") (defArgs (top 15)) (defBody (top 15)) (defScope (top 15)) [] [] (He.ga K (PySem.Str.ofString "next_lots")) fd) : FnOk P w K mg base CX0 1 (He.ga K (PySem.Str.ofString "next_lots")) fd [(PySem.Str.ofString "lots"), (PySem.Str.ofString "squares")] (spP K 2 F_next_lots) := by
  refine fn_ok Fd sc_next_lots rfl rfl fun cdv A outer s H E hr => ?_
  have hu := hr.units
  have hND := sc_next_lots.nd
  exact (s_cons (s_set 2 hND (d_lst a_nil)) (s_acc 2 (s_cons (s_for PassesOwn.never rfl (i_seq (d_var 0)) (g_name 3 hND) (s_one (s_extend 2 (d_lc (n := 5) [((PySem.Str.ofString "square"), 4)] rfl hND (i_seq (d_var 1)) (blkOk_by (by kernel_rfl)) (fun _ _ _ _ _ => (g_name 4 hND)) (fun _ _ _ _ _ => (ts_one (t_w (w_or (t_cmp (op_eqG hu) rd_eq (r_var 3) (DP.pr (d_tup a_nil))) (w_or1 (t_cmp (op_gtA hu) rd_gtA (r_var 4) (d_ixR hu (r_var 3) (DP.pr (d_un un_neg rd_neg (DP.pr d_int)))))))))) (fun _ _ _ _ _ => (d_tup (a_star (r_var 3) (a_cons (d_var 4) a_nil)))))))) (s_fz 2 (s_one (s_ret (d_var 2)))))))
theorem ok_next_lots (hd : Hd w K mg) : Fok P w K mg base 1 (PySem.Str.ofString "next_lots") [(PySem.Str.ofString "lots"), (PySem.Str.ofString "squares")] (spP K 2 F_next_lots) := by
  obtain ⟨fd, Fd⟩ := hd.fd_next_lots
  exact ⟨⟨fd, fn_next_lots hd Fd, Fd.bindsN fun _ _ _ _ _ _ us hl => match us, hl with | [_, _], _ => rfl⟩, hd.gl_next_lots, Fd.kp⟩
/-! ### _law_source -/
theorem sc__law_source : FnScope [(PySem.Str.ofString "script"), (PySem.Str.ofString "mixed"), (PySem.Str.ofString "cell")] [(PySem.Str.ofString "script")] (defScope (top 21)) := ⟨rfl, rfl, rfl, by decide +kernel, rfl, by decide +kernel, by decide +kernel⟩
def b__law_source : FS := (fSeq (fSet 1 (kO (.int 83))) (fSeq (fFor (iScr 0) (gN 2) (fSet 1 (o2 modI (oL (g1 intO) (lCons (o2 addO (o2 addO (o2 mulO (rdV 1) (kO (.int 40503))) (o2 mulO (rdV 2) (kO (.int 59)))) (kO (.int 23))) lNil)) (kO (.int 2147483629))))) (fRet (dSrc (o1 revO (oLc 3 [2] (iScr 0) (gN 2) bYes (oL (g1 absO) (lCons (rdV 2) lNil)))) (kO (.int 1)) (frV 1) (kO (.int 0))))))
def F__law_source : FnB := fnOfB 3 b__law_source
theorem fn__law_source (hd : Hd w K mg) {fd : FuncData} (Fd : FunD K (PySem.Str.ofString "_law_source") (PySem.Str.ofString "_law_source") (defArgs (top 21)) (defBody (top 21)) (defScope (top 21)) [] [] (He.ga K (PySem.Str.ofString "_law_source")) fd) : FnOk P w K mg base CX0 1 (He.ga K (PySem.Str.ofString "_law_source")) fd [(PySem.Str.ofString "script")] (spB K 0 F__law_source) := by
  refine fn_okB Fd sc__law_source rfl rfl fun cdv A outer s H E hr => ?_
  have hu := hr.units
  have hND := sc__law_source.nd
  exact (s_cons (s_set 1 hND d_int) (s_cons (s_for PassesOwn.never rfl (i_scr 0) (g_name 2 hND) (s_one (s_set 1 hND (d_op2 op_mod rd_mod (DP.pr (d_callTy call_int1 rd_int rfl hd.fr_int boot_int (ra_cons (DP.pr (d_op2 op_addO rd_addO (DP.pr (d_op2 op_addO rd_addO (DP.pr (d_op2 op_mulO rd_mulO (r_var 1) (DP.pr d_int))) (DP.pr (d_op2 op_mulO rd_mulO (r_var 2) (DP.pr d_int))))) (DP.pr d_int))) ra_nil))) (DP.pr d_int))))) (s_one (s_ret (d_src (d_rev (DP.pr (d_lc (n := 3) [((PySem.Str.ofString "cell"), 2)] rfl hND (i_scr 0) (blkOk_by (by kernel_rfl)) (fun _ _ _ _ _ => (g_name 2 hND)) (fun _ _ _ _ _ => ts_nil) (fun _ _ _ _ _ => (d_callB call_abs rd_abs rfl hd.fr_abs boot_abs (ra_cons (r_var 2) ra_nil)))))) d_int (d_var 1) d_int)))))
theorem ok__law_source (hd : Hd w K mg) : Fok P w K mg base 1 (PySem.Str.ofString "_law_source") [(PySem.Str.ofString "script")] (spB K 0 F__law_source) := by
  obtain ⟨fd, Fd⟩ := hd.fd__law_source
  exact ⟨⟨fd, fn__law_source hd Fd, Fd.bindsN fun _ _ _ _ _ _ us hl => match us, hl with | [_], _ => rfl⟩, hd.gl__law_source, Fd.kp⟩
/-! ### _law_pick -/
theorem sc__law_pick : FnScope [(PySem.Str.ofString "source"), (PySem.Str.ofString "many"), (PySem.Str.ofString "left"), (PySem.Str.ofString "mixed")] [(PySem.Str.ofString "source"), (PySem.Str.ofString "many")] (defScope (top 22)) := ⟨rfl, rfl, rfl, by decide +kernel, rfl, by decide +kernel, by decide +kernel⟩
def b__law_pick : FS := (fSeq (fIf (bO (o2 ltA (rdV 1) (kO (.int 2)))) (fRet (kO (.int 0))) fNx) (fSeq (fWh (fuelS 0) (bAnd (bO (o2 ltA (srcI 0 .left) (kO (.int 2)))) (bO (o2 gtA (oL (g1 lenA) (lCons (srcC 0) lNil)) (kO (.int 0))))) (fSrcPop 0)) (fSeq (fSet 2 (srcI 0 .left)) (fSeq (fIf (bO (o2 gtA (rdV 2) (kO (.int 1)))) (fSeq (fSrcSet 0 .left (o2 divI (rdV 2) (rdV 1))) (fRet (o2 modI (oL (g1 intO) (lCons (rdV 2) lNil)) (rdV 1)))) fNx) (fSeq (fSrcSet 0 .turn (o2 addO (srcI 0 .turn) (kO (.int 1)))) (fSeq (fSet 3 (o2 modI (oL (g1 intO) (lCons (o2 addO (srcI 0 .mixed) (o2 mulO (srcI 0 .turn) (kO (.int 104729)))) lNil)) (kO (.int 998244353)))) (fSeq (fSet 3 (o2 modI (oL (g1 intO) (lCons (o2 addO (o2 mulO (rdV 3) (rdV 3)) (o2 mulO (srcI 0 .turn) (kO (.int 17)))) lNil)) (kO (.int 2147483647)))) (fSeq (fSrcSet 0 .mixed (frV 3)) (fRet (o2 modI (oL (g1 intO) (lCons (o2 divI (rdV 3) (kO (.int 16))) lNil)) (rdV 1)))))))))))
def F__law_pick : FnB := fnOfB 4 b__law_pick
theorem fn__law_pick (hd : Hd w K mg) {fd : FuncData} (Fd : FunD K (PySem.Str.ofString "_law_pick") (PySem.Str.ofString "_law_pick") (defArgs (top 22)) (defBody (top 22)) (defScope (top 22)) [] [] (He.ga K (PySem.Str.ofString "_law_pick")) fd) : FnOk P w K mg base CX0 1 (He.ga K (PySem.Str.ofString "_law_pick")) fd [(PySem.Str.ofString "source"), (PySem.Str.ofString "many")] (spB K 1 F__law_pick) := by
  refine fn_okB Fd sc__law_pick rfl rfl fun cdv A outer s H E hr => ?_
  have hu := hr.units
  have hND := sc__law_pick.nd
  exact (s_cons (s_if (t_cmp (op_ltA hu) rd_ltA (r_var 1) (DP.pr d_int)) (s_one (s_ret d_int)) s_nil) (s_cons (s_while (fuelS 0) PassesOwn.never (t_w (w_and (t_cmp (op_ltA hu) rd_ltA (DP.pr (d_srcI 0 .left hu)) (DP.pr d_int)) (w_and1 (t_cmp (op_gtA hu) rd_gtA (DP.pr (d_callB op_lenA rd_lenA rfl hd.fr_len PySem.boot_len (ra_cons (r_srcC 0 hu) ra_nil))) (DP.pr d_int))))) (s_one (s_srcPop 0 hu))) (s_cons (s_set 2 hND (d_srcI 0 .left hu)) (s_cons (s_if (t_cmp (op_gtA hu) rd_gtA (r_var 2) (DP.pr d_int)) (s_cons (s_srcSet 0 .left hu (d_op2 op_fdiv rd_div (r_var 2) (r_var 1))) (s_one (s_ret (d_op2 op_mod rd_mod (DP.pr (d_callTy call_int1 rd_int rfl hd.fr_int boot_int (ra_cons (r_var 2) ra_nil))) (r_var 1))))) s_nil) (s_cons (s_srcSet 0 .turn hu (d_op2 op_addO rd_addO (DP.pr (d_srcI 0 .turn hu)) (DP.pr d_int))) (s_cons (s_set 3 hND (d_op2 op_mod rd_mod (DP.pr (d_callTy call_int1 rd_int rfl hd.fr_int boot_int (ra_cons (DP.pr (d_op2 op_addO rd_addO (DP.pr (d_srcI 0 .mixed hu)) (DP.pr (d_op2 op_mulO rd_mulO (DP.pr (d_srcI 0 .turn hu)) (DP.pr d_int))))) ra_nil))) (DP.pr d_int))) (s_cons (s_set 3 hND (d_op2 op_mod rd_mod (DP.pr (d_callTy call_int1 rd_int rfl hd.fr_int boot_int (ra_cons (DP.pr (d_op2 op_addO rd_addO (DP.pr (d_op2 op_mulO rd_mulO (r_var 3) (r_var 3))) (DP.pr (d_op2 op_mulO rd_mulO (DP.pr (d_srcI 0 .turn hu)) (DP.pr d_int))))) ra_nil))) (DP.pr d_int))) (s_cons (s_srcSet 0 .mixed hu (d_var 3)) (s_one (s_ret (d_op2 op_mod rd_mod (DP.pr (d_callTy call_int1 rd_int rfl hd.fr_int boot_int (ra_cons (DP.pr (d_op2 op_fdiv rd_div (r_var 3) (DP.pr d_int))) ra_nil))) (r_var 1))))))))))))
theorem ok__law_pick (hd : Hd w K mg) : Fok P w K mg base 1 (PySem.Str.ofString "_law_pick") [(PySem.Str.ofString "source"), (PySem.Str.ofString "many")] (spB K 1 F__law_pick) := by
  obtain ⟨fd, Fd⟩ := hd.fd__law_pick
  exact ⟨⟨fd, fn__law_pick hd Fd, Fd.bindsN fun _ _ _ _ _ _ us hl => match us, hl with | [_, _], _ => rfl⟩, hd.gl__law_pick, Fd.kp⟩
/-! ### _law_all_lots -/
theorem sc__law_all_lots : FnScope [(PySem.Str.ofString "n"), (PySem.Str.ofString "found"), (PySem.Str.ofString "line"), (PySem.Str.ofString "turn"), (PySem.Str.ofString "late"), (PySem.Str.ofString "lot"), (PySem.Str.ofString "a")] [(PySem.Str.ofString "n")] (defScope (top 25)) := ⟨rfl, rfl, rfl, by decide +kernel, rfl, by decide +kernel, by decide +kernel⟩
def b__law_all_lots : FS := (fSeq (fPar [1, 2] (lCons (dLst (aCons (dTup aNil) aNil)) (lCons (dLst (aCons (dTup aNil) aNil)) lNil))) (fSeq (fFz 1) (fSeq (fFz 2) (fSeq (fFor (iRng1 (lCons (rdV 0) lNil)) (gN 3) (fSeq (fSet 4 (dLst aNil)) (fSeq (fFz 4) (fSeq (fFor (iSeq (frV 2)) (gN 5) (fSeq (fSet 4 (o2 addO (rdV 4) (oLc 7 [6] (iRng2 (lCons (oIf (bO (o2 neO (rdV 5) (dTup aNil))) (o2 addO (o2 ixA (rdV 5) (o2 subI (oL (g1 lenA) (lCons (rdV 5) lNil)) (kO (.int 1)))) (kO (.int 1))) (kO (.int 0))) (lCons (rdV 0) lNil))) (gN 6) bYes (o2 addO (rdV 5) (dTup (aCons (frV 6) aNil)))))) (fSeq (fFz 4) fNx))) (fSeq (fPar [1, 2] (lCons (o2 addO (rdV 1) (rdV 4)) (lCons (frV 4) lNil))) (fSeq (fFz 1) fNx)))))) (fRet (frV 1))))))
def F__law_all_lots : Fn := fnOf 7 b__law_all_lots
theorem fn__law_all_lots (hd : Hd w K mg) {fd : FuncData} (Fd : FunD K (PySem.Str.ofString "_law_all_lots") (PySem.Str.ofString "_law_all_lots") (defArgs (top 25)) (defBody (top 25)) (defScope (top 25)) [] [] (He.ga K (PySem.Str.ofString "_law_all_lots")) fd) : FnOk P w K mg base CX0 1 (He.ga K (PySem.Str.ofString "_law_all_lots")) fd [(PySem.Str.ofString "n")] (spP K 1 F__law_all_lots) := by
  refine fn_ok Fd sc__law_all_lots rfl rfl fun cdv A outer s H E hr => ?_
  have hu := hr.units
  have hND := sc__law_all_lots.nd
  exact (s_cons (s_par2 1 2 rfl hND (oa_cons (d_lst (a_cons (d_tup a_nil) a_nil)) (oa_cons (d_lst (a_cons (d_tup a_nil) a_nil)) oa_nil))) (s_fz 1 (s_fz 2 (s_cons (s_for PassesOwn.never rfl (i_range1 rfl hd.fr_range (ra_cons (r_var 0) ra_nil)) (g_name 3 hND) (s_cons (s_set 4 hND (d_lst a_nil)) (s_fz 4 (s_cons (s_for PassesOwn.never rfl (i_seq (d_var 2)) (g_name 5 hND) (s_cons (s_set 4 hND (d_op2 op_addO rd_addO (r_var 4) (DP.pr (d_lc (n := 7) [((PySem.Str.ofString "a"), 6)] rfl hND (i_range2 rfl hd.fr_range (ra_cons (DP.pr (d_if (t_cmp (op_neG hu) rd_ne (r_var 5) (DP.pr (d_tup a_nil))) (d_op2 op_addO rd_addO (d_ixR hu (r_var 5) (DP.pr (d_op2 op_sub rd_sub (DP.pr (d_callB op_lenA rd_lenA rfl hd.fr_len PySem.boot_len (ra_cons (r_var 5) ra_nil))) (DP.pr d_int)))) (DP.pr d_int)) d_int)) (ra_cons (r_var 0) ra_nil))) (blkOk_by (by kernel_rfl)) (fun _ _ _ _ _ => (g_name 6 hND)) (fun _ _ _ _ _ => ts_nil) (fun _ _ _ _ _ => (d_op2 op_addO rd_addO (r_var 5) (DP.pr (d_tup (a_cons (d_var 6) a_nil))))))))) (s_fz 4 s_nil))) (s_cons (s_par2 1 2 rfl hND (oa_cons (d_op2 op_addO rd_addO (r_var 1) (r_var 4)) (oa_cons (d_var 4) oa_nil))) (s_fz 1 s_nil)))))) (s_one (s_ret (d_var 1)))))))
theorem ok__law_all_lots (hd : Hd w K mg) : Fok P w K mg base 1 (PySem.Str.ofString "_law_all_lots") [(PySem.Str.ofString "n")] (spP K 1 F__law_all_lots) := by
  obtain ⟨fd, Fd⟩ := hd.fd__law_all_lots
  exact ⟨⟨fd, fn__law_all_lots hd Fd, Fd.bindsN fun _ _ _ _ _ _ us hl => match us, hl with | [_], _ => rfl⟩, hd.gl__law_all_lots, Fd.kp⟩
/-! ### _law_choose -/
theorem sc__law_choose : FnScope [(PySem.Str.ofString "n"), (PySem.Str.ofString "k"), (PySem.Str.ofString "found"), (PySem.Str.ofString "i")] [(PySem.Str.ofString "n"), (PySem.Str.ofString "k")] (defScope (top 26)) := ⟨rfl, rfl, rfl, by decide +kernel, rfl, by decide +kernel, by decide +kernel⟩
def b__law_choose : FS := (fSeq (fSet 2 (kO (.int 1))) (fSeq (fFor (iRng1 (lCons (rdV 1) lNil)) (gN 3) (fSet 2 (o2 divI (o2 mulO (rdV 2) (o2 subI (rdV 0) (rdV 3))) (o2 addO (rdV 3) (kO (.int 1)))))) (fRet (oIf (bO (oChain leA leA (kO (.int 0)) (rdV 1) (rdV 0))) (frV 2) (kO (.int 0))))))
def F__law_choose : Fn := fnOf 4 b__law_choose
theorem fn__law_choose (hd : Hd w K mg) {fd : FuncData} (Fd : FunD K (PySem.Str.ofString "_law_choose") (PySem.Str.ofString "_law_choose") (defArgs (top 26)) (defBody (top 26)) (defScope (top 26)) [] [] (He.ga K (PySem.Str.ofString "_law_choose")) fd) : FnOk P w K mg base CX0 1 (He.ga K (PySem.Str.ofString "_law_choose")) fd [(PySem.Str.ofString "n"), (PySem.Str.ofString "k")] (spP K 2 F__law_choose) := by
  refine fn_ok Fd sc__law_choose rfl rfl fun cdv A outer s H E hr => ?_
  have hu := hr.units
  have hND := sc__law_choose.nd
  exact (s_cons (s_set 2 hND d_int) (s_cons (s_for PassesOwn.never rfl (i_range1 rfl hd.fr_range (ra_cons (r_var 1) ra_nil)) (g_name 3 hND) (s_one (s_set 2 hND (d_op2 op_fdiv rd_div (DP.pr (d_op2 op_mulO rd_mulO (r_var 2) (DP.pr (d_op2 op_sub rd_sub (r_var 0) (r_var 3))))) (DP.pr (d_op2 op_addO rd_addO (r_var 3) (DP.pr d_int))))))) (s_one (s_ret (d_if (t_chain (op_leA hu) rd_leA (op_leA hu) rd_leA (DP.pr d_int) (r_var 1) (r_var 0)) (d_var 2) d_int)))))
theorem ok__law_choose (hd : Hd w K mg) : Fok P w K mg base 1 (PySem.Str.ofString "_law_choose") [(PySem.Str.ofString "n"), (PySem.Str.ofString "k")] (spP K 2 F__law_choose) := by
  obtain ⟨fd, Fd⟩ := hd.fd__law_choose
  exact ⟨⟨fd, fn__law_choose hd Fd, Fd.bindsN fun _ _ _ _ _ _ us hl => match us, hl with | [_, _], _ => rfl⟩, hd.gl__law_choose, Fd.kp⟩
/-! ### _law_squares -/
theorem sc__law_squares : FnScope [(PySem.Str.ofString "m"), (PySem.Str.ofString "n"), (PySem.Str.ofString "found"), (PySem.Str.ofString "r"), (PySem.Str.ofString "c")] [(PySem.Str.ofString "m"), (PySem.Str.ofString "n")] (defScope (top 27)) := ⟨rfl, rfl, rfl, by decide +kernel, rfl, by decide +kernel, by decide +kernel⟩
def b__law_squares : FS := (fSeq (fSet 2 (dLst aNil)) (fSeq (fFz 2) (fSeq (fFor (iRng1 (lCons (rdV 0) lNil)) (gN 3) (fSeq (fSet 2 (o2 addO (rdV 2) (oLc 5 [4] (iRng1 (lCons (rdV 1) lNil)) (gN 4) bYes (dTup (aCons (frV 3) (aCons (frV 4) aNil)))))) (fSeq (fFz 2) fNx))) (fRet (frV 2)))))
def F__law_squares : Fn := fnOf 5 b__law_squares
theorem fn__law_squares (hd : Hd w K mg) {fd : FuncData} (Fd : FunD K (PySem.Str.ofString "_law_squares") (PySem.Str.ofString "_law_squares") (defArgs (top 27)) (defBody (top 27)) (defScope (top 27)) [] [] (He.ga K (PySem.Str.ofString "_law_squares")) fd) : FnOk P w K mg base CX0 1 (He.ga K (PySem.Str.ofString "_law_squares")) fd [(PySem.Str.ofString "m"), (PySem.Str.ofString "n")] (spP K 2 F__law_squares) := by
  refine fn_ok Fd sc__law_squares rfl rfl fun cdv A outer s H E hr => ?_
  have hu := hr.units
  have hND := sc__law_squares.nd
  exact (s_cons (s_set 2 hND (d_lst a_nil)) (s_fz 2 (s_cons (s_for PassesOwn.never rfl (i_range1 rfl hd.fr_range (ra_cons (r_var 0) ra_nil)) (g_name 3 hND) (s_cons (s_set 2 hND (d_op2 op_addO rd_addO (r_var 2) (DP.pr (d_lc (n := 5) [((PySem.Str.ofString "c"), 4)] rfl hND (i_range1 rfl hd.fr_range (ra_cons (r_var 1) ra_nil)) (blkOk_by (by kernel_rfl)) (fun _ _ _ _ _ => (g_name 4 hND)) (fun _ _ _ _ _ => ts_nil) (fun _ _ _ _ _ => (d_tup (a_cons (d_var 3) (a_cons (d_var 4) a_nil)))))))) (s_fz 2 s_nil))) (s_one (s_ret (d_var 2))))))
theorem ok__law_squares (hd : Hd w K mg) : Fok P w K mg base 1 (PySem.Str.ofString "_law_squares") [(PySem.Str.ofString "m"), (PySem.Str.ofString "n")] (spP K 2 F__law_squares) := by
  obtain ⟨fd, Fd⟩ := hd.fd__law_squares
  exact ⟨⟨fd, fn__law_squares hd Fd, Fd.bindsN fun _ _ _ _ _ _ us hl => match us, hl with | [_, _], _ => rfl⟩, hd.gl__law_squares, Fd.kp⟩
/-! ### _law_arrangements -/
theorem sc__law_arrangements : FnScope [(PySem.Str.ofString "n"), (PySem.Str.ofString "found"), (PySem.Str.ofString "turn"), (PySem.Str.ofString "late"), (PySem.Str.ofString "row"), (PySem.Str.ofString "c")] [(PySem.Str.ofString "n")] (defScope (top 29)) := ⟨rfl, rfl, rfl, by decide +kernel, rfl, by decide +kernel, by decide +kernel⟩
def b__law_arrangements : FS := (fSeq (fSet 1 (dLst (aCons (dTup aNil) aNil))) (fSeq (fFz 1) (fSeq (fFor (iRng1 (lCons (rdV 0) lNil)) (gN 2) (fSeq (fSet 3 (dLst aNil)) (fSeq (fFz 3) (fSeq (fFor (iSeq (frV 1)) (gN 4) (fSeq (fSet 3 (o2 addO (rdV 3) (oLc 6 [5] (iRng1 (lCons (rdV 0) lNil)) (gN 5) (bO (o2 niA (rdV 5) (rdV 4))) (o2 addO (rdV 4) (dTup (aCons (frV 5) aNil)))))) (fSeq (fFz 3) fNx))) (fSeq (fSet 1 (oL (g1 listO) (lCons (rdV 3) lNil))) (fSeq (fFz 1) fNx)))))) (fRet (frV 1)))))
def F__law_arrangements : Fn := fnOf 6 b__law_arrangements
theorem fn__law_arrangements (hd : Hd w K mg) {fd : FuncData} (Fd : FunD K (PySem.Str.ofString "_law_arrangements") (PySem.Str.ofString "_law_arrangements") (defArgs (top 29)) (defBody (top 29)) (defScope (top 29)) [] [] (He.ga K (PySem.Str.ofString "_law_arrangements")) fd) : FnOk P w K mg base CX0 1 (He.ga K (PySem.Str.ofString "_law_arrangements")) fd [(PySem.Str.ofString "n")] (spP K 1 F__law_arrangements) := by
  refine fn_ok Fd sc__law_arrangements rfl rfl fun cdv A outer s H E hr => ?_
  have hu := hr.units
  have hND := sc__law_arrangements.nd
  exact (s_cons (s_set 1 hND (d_lst (a_cons (d_tup a_nil) a_nil))) (s_fz 1 (s_cons (s_for PassesOwn.never rfl (i_range1 rfl hd.fr_range (ra_cons (r_var 0) ra_nil)) (g_name 2 hND) (s_cons (s_set 3 hND (d_lst a_nil)) (s_fz 3 (s_cons (s_for PassesOwn.never rfl (i_seq (d_var 1)) (g_name 4 hND) (s_cons (s_set 3 hND (d_op2 op_addO rd_addO (r_var 3) (DP.pr (d_lc (n := 6) [((PySem.Str.ofString "c"), 5)] rfl hND (i_range1 rfl hd.fr_range (ra_cons (r_var 0) ra_nil)) (blkOk_by (by kernel_rfl)) (fun _ _ _ _ _ => (g_name 5 hND)) (fun _ _ _ _ _ => (ts_one (t_cmp (op_niB hu) rd_niB (r_var 5) (r_var 4)))) (fun _ _ _ _ _ => (d_op2 op_addO rd_addO (r_var 4) (DP.pr (d_tup (a_cons (d_var 5) a_nil))))))))) (s_fz 3 s_nil))) (s_cons (s_set 1 hND (d_callTy call_list_of rd_list rfl hd.fr_list boot_list (ra_cons (r_var 3) ra_nil))) (s_fz 1 s_nil)))))) (s_one (s_ret (d_var 1))))))
theorem ok__law_arrangements (hd : Hd w K mg) : Fok P w K mg base 1 (PySem.Str.ofString "_law_arrangements") [(PySem.Str.ofString "n")] (spP K 1 F__law_arrangements) := by
  obtain ⟨fd, Fd⟩ := hd.fd__law_arrangements
  exact ⟨⟨fd, fn__law_arrangements hd Fd, Fd.bindsN fun _ _ _ _ _ _ us hl => match us, hl with | [_], _ => rfl⟩, hd.gl__law_arrangements, Fd.kp⟩
/-! ### _law_within -/
theorem sc__law_within : FnScope [(PySem.Str.ofString "m"), (PySem.Str.ofString "n"), (PySem.Str.ofString "lot"), (PySem.Str.ofString "counts"), (PySem.Str.ofString "line"), (PySem.Str.ofString "late"), (PySem.Str.ofString "some"), (PySem.Str.ofString "square"), (PySem.Str.ofString "r"), (PySem.Str.ofString "c")] [(PySem.Str.ofString "m"), (PySem.Str.ofString "n"), (PySem.Str.ofString "lot")] (defScope (top 30)) := ⟨rfl, rfl, rfl, by decide +kernel, rfl, by decide +kernel, by decide +kernel⟩
def b__law_within : FS := (fSeq (fPar [3, 4] (lCons (dLst (aCons (kO (.int 1)) aNil)) (lCons (dLst (aCons (dTup aNil) aNil)) lNil))) (fSeq (fFz 3) (fSeq (fFz 4) (fSeq (fWh (fun _ => 65536) (bO (o2 neO (rdV 4) (dLst aNil))) (fSeq (fSet 5 (dLst aNil)) (fSeq (fAcc 5) (fSeq (fFor (iSeq (frV 4)) (gN 6) (fFor (iSeq (frV 2)) (gN 7) (fIf (bOr (bO (o2 eqO (rdV 6) (dTup aNil))) (bO (o2 gtA (rdV 7) (o2 ixA (rdV 6) (o2 subI (oL (g1 lenA) (lCons (rdV 6) lNil)) (kO (.int 1))))))) (fIf (bO (o2 eqO (oLc 10 [8, 9] (iSeq (frV 6)) (gT 2 (gCons' (gN 8) (gCons' (gN 9) gNil'))) (bOr (bO (o2 eqO (rdV 8) (o2 ixA (rdV 7) (kO (.int 0))))) (bO (o2 eqO (rdV 9) (o2 ixA (rdV 7) (kO (.int 1)))))) (kO (.int 1))) (dLst aNil))) (fApp 5 (o2 addO (rdV 6) (dTup (aCons (frV 7) aNil)))) fNx) fNx))) (fSeq (fFz 5) (fSeq (fPar [3, 4] (lCons (o2 addO (rdV 3) (dLst (aCons (oL (g1 lenA) (lCons (rdV 5) lNil)) aNil))) (lCons (frV 5) lNil))) (fSeq (fFz 3) fNx))))))) (fRet (dSl slO (rdV 3) oNone (oSome (o2 subI (oL (g1 lenA) (lCons (rdV 3) lNil)) (kO (.int 1))))))))))
def F__law_within : Fn := fnOf 10 b__law_within
theorem fn__law_within (hd : Hd w K mg) {fd : FuncData} (Fd : FunD K (PySem.Str.ofString "_law_within") (PySem.Str.ofString "_law_within") (defArgs (top 30)) (defBody (top 30)) (defScope (top 30)) [] [] (He.ga K (PySem.Str.ofString "_law_within")) fd) : FnOk P w K mg base CX0 1 (He.ga K (PySem.Str.ofString "_law_within")) fd [(PySem.Str.ofString "m"), (PySem.Str.ofString "n"), (PySem.Str.ofString "lot")] (spP K 3 F__law_within) := by
  refine fn_ok Fd sc__law_within rfl rfl fun cdv A outer s H E hr => ?_
  have hu := hr.units
  have hND := sc__law_within.nd
  exact (s_cons (s_par2 3 4 rfl hND (oa_cons (d_lst (a_cons d_int a_nil)) (oa_cons (d_lst (a_cons (d_tup a_nil) a_nil)) oa_nil))) (s_fz 3 (s_fz 4 (s_cons (s_while (fun _ => 65536) PassesOwn.never (t_cmp (op_neG hu) rd_ne (r_var 4) (DP.pr (d_lst a_nil))) (s_cons (s_set 5 hND (d_lst a_nil)) (s_acc 5 (s_cons (s_for PassesOwn.never rfl (i_seq (d_var 4)) (g_name 6 hND) (s_one (s_for PassesOwn.never rfl (i_seq (d_var 2)) (g_name 7 hND) (s_one (s_if (t_w (w_or (t_cmp (op_eqG hu) rd_eq (r_var 6) (DP.pr (d_tup a_nil))) (w_or1 (t_cmp (op_gtA hu) rd_gtA (r_var 7) (d_ixR hu (r_var 6) (DP.pr (d_op2 op_sub rd_sub (DP.pr (d_callB op_lenA rd_lenA rfl hd.fr_len PySem.boot_len (ra_cons (r_var 6) ra_nil))) (DP.pr d_int)))))))) (s_one (s_if (t_cmp (op_eqG hu) rd_eq (DP.pr (d_lc (n := 10) [((PySem.Str.ofString "r"), 8), ((PySem.Str.ofString "c"), 9)] rfl hND (i_seq (d_var 6)) (blkOk_by (by kernel_rfl)) (fun _ _ _ _ _ => (g_tup rfl (g_cons (g_name 8 hND) (g_cons (g_name 9 hND) g_nil)))) (fun _ _ _ _ _ => (ts_one (t_w (w_or (t_cmp (op_eqG hu) rd_eq (r_var 8) (d_ixR hu (r_var 7) (DP.pr d_int))) (w_or1 (t_cmp (op_eqG hu) rd_eq (r_var 9) (d_ixR hu (r_var 7) (DP.pr d_int)))))))) (fun _ _ _ _ _ => d_int))) (DP.pr (d_lst a_nil))) (s_one (s_append 5 (d_op2 op_addO rd_addO (r_var 6) (DP.pr (d_tup (a_cons (d_var 7) a_nil)))))) s_nil)) s_nil))))) (s_fz 5 (s_cons (s_par2 3 4 rfl hND (oa_cons (d_op2 op_addO rd_addO (r_var 3) (DP.pr (d_lst (a_cons (d_callB op_lenA rd_lenA rfl hd.fr_len PySem.boot_len (ra_cons (r_var 5) ra_nil)) a_nil)))) (oa_cons (d_var 5) oa_nil))) (s_fz 3 s_nil))))))) (s_one (s_ret (d_sl (r_var 3) p_none (p_some (DP.pr (d_op2 op_sub rd_sub (DP.pr (d_callB op_lenA rd_lenA rfl hd.fr_len PySem.boot_len (ra_cons (r_var 3) ra_nil))) (DP.pr d_int)))))))))))
theorem ok__law_within (hd : Hd w K mg) : Fok P w K mg base 1 (PySem.Str.ofString "_law_within") [(PySem.Str.ofString "m"), (PySem.Str.ofString "n"), (PySem.Str.ofString "lot")] (spP K 3 F__law_within) := by
  obtain ⟨fd, Fd⟩ := hd.fd__law_within
  exact ⟨⟨fd, fn__law_within hd Fd, Fd.bindsN fun _ _ _ _ _ _ us hl => match us, hl with | [_, _, _], _ => rfl⟩, hd.gl__law_within, Fd.kp⟩
/-! ### rook_lots -/
theorem sc_rook_lots : FnScope [(PySem.Str.ofString "m"), (PySem.Str.ofString "n")] [(PySem.Str.ofString "m"), (PySem.Str.ofString "n")] (defScope (top 4)) := ⟨rfl, rfl, rfl, by decide +kernel, rfl, by decide +kernel, by decide +kernel⟩
def b_rook_lots : FS := (fSeq (fIf (bO (o2 neO (rdV 0) (rdV 1))) (fRet (dCall 2 F_times_itself (aCons (oL (g2 max2O) (lCons (rdV 0) (lCons (rdV 1) lNil))) (aCons (oL (g2 min2O) (lCons (rdV 0) (lCons (rdV 1) lNil))) aNil)))) fNx) (fRet (o2 subI (o2 mulO (kO (.int 2)) (dCall 2 F_times_itself (aCons (frV 1) (aCons (frV 1) aNil)))) (dCall 2 F_falling_product (aCons (frV 1) (aCons (frV 1) aNil))))))
def F_rook_lots : Fn := fnOf 2 b_rook_lots
theorem fn_rook_lots (hd : Hd w K mg) {fd : FuncData} (Fd : FunD K (PySem.Str.ofString "rook_lots") (PySem.Str.ofString "rook_lots") (defArgs (top 4)) (defBody (top 4)) (defScope (top 4)) [] [] (He.ga K (PySem.Str.ofString "rook_lots")) fd) : FnOk P w K mg base CX0 2 (He.ga K (PySem.Str.ofString "rook_lots")) fd [(PySem.Str.ofString "m"), (PySem.Str.ofString "n")] (spP K 2 F_rook_lots) := by
  refine fn_ok Fd sc_rook_lots rfl rfl fun cdv A outer s H E hr => ?_
  have hu := hr.units
  have hND := sc_rook_lots.nd
  exact (s_cons (s_if (t_cmp (op_neG hu) rd_ne (r_var 0) (r_var 1)) (s_one (s_ret (d_callF (ok_times_itself hd) hr (by decide) (a_cons (d_callB (call_max2 rfl) rd_max2 rfl hd.fr_max boot_max (ra_cons (r_var 0) (ra_cons (r_var 1) ra_nil))) (a_cons (d_callB (call_min2 rfl) rd_min2 rfl hd.fr_min boot_min (ra_cons (r_var 0) (ra_cons (r_var 1) ra_nil))) a_nil))))) s_nil) (s_one (s_ret (d_op2 op_sub rd_sub (DP.pr (d_op2 op_mulO rd_mulO (DP.pr d_int) (DP.pr (d_callF (ok_times_itself hd) hr (by decide) (a_cons (d_var 1) (a_cons (d_var 1) a_nil)))))) (DP.pr (d_callF (ok_falling_product hd) hr (by decide) (a_cons (d_var 1) (a_cons (d_var 1) a_nil))))))))
theorem ok_rook_lots (hd : Hd w K mg) : Fok P w K mg base 2 (PySem.Str.ofString "rook_lots") [(PySem.Str.ofString "m"), (PySem.Str.ofString "n")] (spP K 2 F_rook_lots) := by
  obtain ⟨fd, Fd⟩ := hd.fd_rook_lots
  exact ⟨⟨fd, fn_rook_lots hd Fd, Fd.bindsN fun _ _ _ _ _ _ us hl => match us, hl with | [_, _], _ => rfl⟩, hd.gl_rook_lots, Fd.kp⟩
/-! ### rook_peaces -/
theorem sc_rook_peaces : FnScope [(PySem.Str.ofString "m"), (PySem.Str.ofString "n"), (PySem.Str.ofString "k")] [(PySem.Str.ofString "m"), (PySem.Str.ofString "n"), (PySem.Str.ofString "k")] (defScope (top 5)) := ⟨rfl, rfl, rfl, by decide +kernel, rfl, by decide +kernel, by decide +kernel⟩
def b_rook_peaces : FS := (fSeq (fIf (bO (o2 gtA (rdV 2) (oL (g2 min2O) (lCons (rdV 0) (lCons (rdV 1) lNil))))) (fRet (kO (.int 0))) fNx) (fRet (o2 divI (o2 mulO (dCall 2 F_falling_product (aCons (frV 0) (aCons (frV 2) aNil))) (dCall 2 F_falling_product (aCons (frV 1) (aCons (frV 2) aNil)))) (dCall 2 F_falling_product (aCons (frV 2) (aCons (frV 2) aNil))))))
def F_rook_peaces : Fn := fnOf 3 b_rook_peaces
theorem fn_rook_peaces (hd : Hd w K mg) {fd : FuncData} (Fd : FunD K (PySem.Str.ofString "rook_peaces") (PySem.Str.ofString "rook_peaces") (defArgs (top 5)) (defBody (top 5)) (defScope (top 5)) [] [] (He.ga K (PySem.Str.ofString "rook_peaces")) fd) : FnOk P w K mg base CX0 2 (He.ga K (PySem.Str.ofString "rook_peaces")) fd [(PySem.Str.ofString "m"), (PySem.Str.ofString "n"), (PySem.Str.ofString "k")] (spP K 3 F_rook_peaces) := by
  refine fn_ok Fd sc_rook_peaces rfl rfl fun cdv A outer s H E hr => ?_
  have hu := hr.units
  have hND := sc_rook_peaces.nd
  exact (s_cons (s_if (t_cmp (op_gtA hu) rd_gtA (r_var 2) (DP.pr (d_callB (call_min2 rfl) rd_min2 rfl hd.fr_min boot_min (ra_cons (r_var 0) (ra_cons (r_var 1) ra_nil))))) (s_one (s_ret d_int)) s_nil) (s_one (s_ret (d_op2 op_fdiv rd_div (DP.pr (d_op2 op_mulO rd_mulO (DP.pr (d_callF (ok_falling_product hd) hr (by decide) (a_cons (d_var 0) (a_cons (d_var 2) a_nil)))) (DP.pr (d_callF (ok_falling_product hd) hr (by decide) (a_cons (d_var 1) (a_cons (d_var 2) a_nil)))))) (DP.pr (d_callF (ok_falling_product hd) hr (by decide) (a_cons (d_var 2) (a_cons (d_var 2) a_nil))))))))
theorem ok_rook_peaces (hd : Hd w K mg) : Fok P w K mg base 2 (PySem.Str.ofString "rook_peaces") [(PySem.Str.ofString "m"), (PySem.Str.ofString "n"), (PySem.Str.ofString "k")] (spP K 3 F_rook_peaces) := by
  obtain ⟨fd, Fd⟩ := hd.fd_rook_peaces
  exact ⟨⟨fd, fn_rook_peaces hd Fd, Fd.bindsN fun _ _ _ _ _ _ us hl => match us, hl with | [_, _, _], _ => rfl⟩, hd.gl_rook_peaces, Fd.kp⟩
/-! ### reached_squares -/
theorem sc_reached_squares : FnScope [(PySem.Str.ofString "piece"), (PySem.Str.ofString "m"), (PySem.Str.ofString "n"), (PySem.Str.ofString "square"), (PySem.Str.ofString "found"), (PySem.Str.ofString "k"), (PySem.Str.ofString "a"), (PySem.Str.ofString "b"), (PySem.Str.ofString "r"), (PySem.Str.ofString "c"), (PySem.Str.ofString "s")] [(PySem.Str.ofString "piece"), (PySem.Str.ofString "m"), (PySem.Str.ofString "n"), (PySem.Str.ofString "square")] (defScope (top 11)) := ⟨rfl, rfl, rfl, by decide +kernel, rfl, by decide +kernel, by decide +kernel⟩
def b_reached_squares : FS := (fSeq (fSet 4 (dLst aNil)) (fSeq (fAcc 4) (fSeq (fFor (iRng2 (lCons (kO (.int 1)) (lCons (o2 addO (dCall 3 F_how_far (aCons (frV 0) (aCons (frV 1) (aCons (frV 2) aNil)))) (kO (.int 1))) lNil))) (gN 5) (fFor (iTab t_STEPS (frV 0)) (gT 2 (gCons' (gN 6) (gCons' (gN 7) gNil'))) (fExt 4 (oLc 11 [10] (iSeq (dTup (aCons (o1 negI (kO (.int 1))) (aCons (kO (.int 1)) aNil)))) (gN 10) bYes (dTup (aCons (o2 addO (o2 ixA (rdV 3) (kO (.int 0))) (o2 mulO (o2 mulO (rdV 10) (rdV 5)) (rdV 6))) (aCons (o2 addO (o2 ixA (rdV 3) (kO (.int 1))) (o2 mulO (o2 mulO (rdV 10) (rdV 5)) (rdV 7))) aNil))))))) (fSeq (fFz 4) (fRet (oL (g1 tupO) (lCons (oL (g1 sortA) (lCons (oLc 11 [8, 9] (iSeq (frV 4)) (gT 2 (gCons' (gN 8) (gCons' (gN 9) gNil'))) (bAnd (bO (oChain leA ltA (kO (.int 0)) (rdV 8) (rdV 1))) (bO (oChain leA ltA (kO (.int 0)) (rdV 9) (rdV 2)))) (dTup (aCons (frV 8) (aCons (frV 9) aNil)))) lNil)) lNil)))))))
def F_reached_squares : Fn := fnOf 11 b_reached_squares
theorem fn_reached_squares (hd : Hd w K mg) {fd : FuncData} (Fd : FunD K (PySem.Str.ofString "reached_squares") (PySem.Str.ofString "reached_squares") (defArgs (top 11)) (defBody (top 11)) (defScope (top 11)) [] [] (He.ga K (PySem.Str.ofString "reached_squares")) fd) : FnOk P w K mg base CX0 2 (He.ga K (PySem.Str.ofString "reached_squares")) fd [(PySem.Str.ofString "piece"), (PySem.Str.ofString "m"), (PySem.Str.ofString "n"), (PySem.Str.ofString "square")] (spP K 4 F_reached_squares) := by
  refine fn_ok Fd sc_reached_squares rfl rfl fun cdv A outer s H E hr => ?_
  have hu := hr.units
  have hND := sc_reached_squares.nd
  exact (s_cons (s_set 4 hND (d_lst a_nil)) (s_acc 4 (s_cons (s_for PassesOwn.never rfl (i_range2 rfl hd.fr_range (ra_cons (DP.pr d_int) (ra_cons (DP.pr (d_op2 op_addO rd_addO (DP.pr (d_callF (ok_how_far hd) hr (by decide) (a_cons (d_var 0) (a_cons (d_var 1) (a_cons (d_var 2) a_nil))))) (DP.pr d_int))) ra_nil))) (g_name 5 hND) (s_one (s_forR PassesOwn.never rfl (i_tab hd.tab_STEPS rfl hd.gl_STEPS (d_var 0)) (g_tupC rfl (g_cons (g_name 6 hND) (g_cons (g_name 7 hND) g_nil))) (s_one (s_extend 4 (d_lc (n := 11) [((PySem.Str.ofString "s"), 10)] rfl hND (i_seq (d_tup (a_cons (d_un un_neg rd_neg (DP.pr d_int)) (a_cons d_int a_nil)))) (blkOk_by (by kernel_rfl)) (fun _ _ _ _ _ => (g_name 10 hND)) (fun _ _ _ _ _ => ts_nil) (fun _ _ _ _ _ => (d_tup (a_cons (d_op2 op_addO rd_addO (d_ixR hu (r_var 3) (DP.pr d_int)) (DP.pr (d_op2 op_mulO rd_mulO (DP.pr (d_op2 op_mulO rd_mulO (r_var 10) (r_var 5))) (r_var 6)))) (a_cons (d_op2 op_addO rd_addO (d_ixR hu (r_var 3) (DP.pr d_int)) (DP.pr (d_op2 op_mulO rd_mulO (DP.pr (d_op2 op_mulO rd_mulO (r_var 10) (r_var 5))) (r_var 7)))) a_nil)))))))))) (s_fz 4 (s_one (s_ret (d_callTy call_tuple_of rd_tuple rfl hd.fr_tuple boot_tuple (ra_cons (DP.pr (d_callB (op_sortAll rfl hu) rd_sortAll rfl hd.fr_sorted boot_sorted (ra_cons (DP.pr (d_lc (n := 11) [((PySem.Str.ofString "r"), 8), ((PySem.Str.ofString "c"), 9)] rfl hND (i_seq (d_var 4)) (blkOk_by (by kernel_rfl)) (fun _ _ _ _ _ => (g_tup rfl (g_cons (g_name 8 hND) (g_cons (g_name 9 hND) g_nil)))) (fun _ _ _ _ _ => (ts_one (t_w (w_and (t_chain (op_leA hu) rd_leA (op_ltA hu) rd_ltA (DP.pr d_int) (r_var 8) (r_var 1)) (w_and1 (t_chain (op_leA hu) rd_leA (op_ltA hu) rd_ltA (DP.pr d_int) (r_var 9) (r_var 2))))))) (fun _ _ _ _ _ => (d_tup (a_cons (d_var 8) (a_cons (d_var 9) a_nil)))))) ra_nil))) ra_nil))))))))
theorem ok_reached_squares (hd : Hd w K mg) : Fok P w K mg base 2 (PySem.Str.ofString "reached_squares") [(PySem.Str.ofString "piece"), (PySem.Str.ofString "m"), (PySem.Str.ofString "n"), (PySem.Str.ofString "square")] (spP K 4 F_reached_squares) := by
  obtain ⟨fd, Fd⟩ := hd.fd_reached_squares
  exact ⟨⟨fd, fn_reached_squares hd Fd, Fd.bindsN fun _ _ _ _ _ _ us hl => match us, hl with | [_, _, _, _], _ => rfl⟩, hd.gl_reached_squares, Fd.kp⟩
/-! ### _law_of -/
theorem sc__law_of : FnScope [(PySem.Str.ofString "source"), (PySem.Str.ofString "some")] [(PySem.Str.ofString "source"), (PySem.Str.ofString "some")] (defScope (top 23)) := ⟨rfl, rfl, rfl, by decide +kernel, rfl, by decide +kernel, by decide +kernel⟩
def b__law_of : FS := (fRetE (e2O ixO (eP (frV 1)) (eCallB 0 1 F__law_pick (eaCons (eP (oL (g1 lenA) (lCons (rdV 1) lNil))) eaNil))))
def c0__law_of : FS := (fRetE (e2O ixO (eP (frV 1)) (eCallB 0 1 F__law_pick (eaCons (eP (oL (g1 lenA) (lCons (rdV 1) lNil))) eaNil))))
theorem g__law_of : b__law_of = c0__law_of := by
  simp only [b__law_of, c0__law_of, fSeq_assoc]
def F__law_of : FnB := fnOfB 2 b__law_of
theorem fn__law_of (hd : Hd w K mg) {fd : FuncData} (Fd : FunD K (PySem.Str.ofString "_law_of") (PySem.Str.ofString "_law_of") (defArgs (top 23)) (defBody (top 23)) (defScope (top 23)) [] [] (He.ga K (PySem.Str.ofString "_law_of")) fd) : FnOk P w K mg base CX0 2 (He.ga K (PySem.Str.ofString "_law_of")) fd [(PySem.Str.ofString "source"), (PySem.Str.ofString "some")] (spB K 1 F__law_of) := by
  refine fn_okB Fd sc__law_of rfl rfl fun cdv A outer s H E hr => ?_
  have hu := hr.units
  have hND := sc__law_of.nd
  exact (s_one (s_retE (e_ix (e_p (d_var 1)) (e_lentF 0 (ok__law_pick hd) hr (by decide) (ea_cons (e_p (d_callB op_lenA rd_lenA rfl hd.fr_len PySem.boot_len (ra_cons (r_var 1) ra_nil))) ea_nil)))))
theorem ok__law_of (hd : Hd w K mg) : Fok P w K mg base 2 (PySem.Str.ofString "_law_of") [(PySem.Str.ofString "source"), (PySem.Str.ofString "some")] (spB K 1 F__law_of) := by
  obtain ⟨fd, Fd⟩ := hd.fd__law_of
  exact ⟨⟨fd, fn__law_of hd Fd, Fd.bindsN fun _ _ _ _ _ _ us hl => match us, hl with | [_, _], _ => rfl⟩, hd.gl__law_of, Fd.kp⟩
/-! ### _law_mixed -/
theorem sc__law_mixed : FnScope [(PySem.Str.ofString "source"), (PySem.Str.ofString "things"), (PySem.Str.ofString "rest"), (PySem.Str.ofString "found")] [(PySem.Str.ofString "source"), (PySem.Str.ofString "things")] (defScope (top 24)) := ⟨rfl, rfl, rfl, by decide +kernel, rfl, by decide +kernel, by decide +kernel⟩
def b__law_mixed : FS := (fSeq (fPar [2, 3] (lCons (oL (g1 listO) (lCons (rdV 1) lNil)) (lCons (dLst aNil) lNil))) (fSeq (fAcc 3) (fSeq (fWh (fun _ => 65536) (bO (o2 neO (rdV 2) (dLst aNil))) (fAppE 3 (ePop 2 (eCallB 0 1 F__law_pick (eaCons (eP (oL (g1 lenA) (lCons (rdV 2) lNil))) eaNil))))) (fSeq (fFz 3) (fRet (frV 3))))))
def c0__law_mixed : FS := (fSeq (fPar [2, 3] (lCons (oL (g1 listO) (lCons (rdV 1) lNil)) (lCons (dLst aNil) lNil))) (fAcc 3))
def c1__law_mixed : FS := (fWh (fun _ => 65536) (bO (o2 neO (rdV 2) (dLst aNil))) (fAppE 3 (ePop 2 (eCallB 0 1 F__law_pick (eaCons (eP (oL (g1 lenA) (lCons (rdV 2) lNil))) eaNil)))))
def c2__law_mixed : FS := (fSeq (fFz 3) (fRet (frV 3)))
theorem g__law_mixed : b__law_mixed = (fSeq c0__law_mixed (fSeq c1__law_mixed c2__law_mixed)) := by
  simp only [b__law_mixed, c0__law_mixed, c1__law_mixed, c2__law_mixed, fSeq_assoc]
def F__law_mixed : FnB := fnOfB 4 b__law_mixed
theorem fn__law_mixed (hd : Hd w K mg) {fd : FuncData} (Fd : FunD K (PySem.Str.ofString "_law_mixed") (PySem.Str.ofString "_law_mixed") (defArgs (top 24)) (defBody (top 24)) (defScope (top 24)) [] [] (He.ga K (PySem.Str.ofString "_law_mixed")) fd) : FnOk P w K mg base CX0 2 (He.ga K (PySem.Str.ofString "_law_mixed")) fd [(PySem.Str.ofString "source"), (PySem.Str.ofString "things")] (spB K 1 F__law_mixed) := by
  refine fn_okB Fd sc__law_mixed rfl rfl fun cdv A outer s H E hr => ?_
  have hu := hr.units
  have hND := sc__law_mixed.nd
  exact (s_cons (s_par2 2 3 rfl hND (oa_cons (d_callTy call_list_of rd_list rfl hd.fr_list boot_list (ra_cons (r_var 1) ra_nil)) (oa_cons (d_lst a_nil) oa_nil))) (s_acc 3 (s_cons (s_while (fun _ => 65536) PassesOwn.never (t_cmp (op_neG hu) rd_ne (r_var 2) (DP.pr (d_lst a_nil))) (s_one (s_appendE 3 (e_pop 2 (e_lentF 0 (ok__law_pick hd) hr (by decide) (ea_cons (e_p (d_callB op_lenA rd_lenA rfl hd.fr_len PySem.boot_len (ra_cons (r_var 2) ra_nil))) ea_nil)))))) (s_fz 3 (s_one (s_ret (d_var 3)))))))
theorem ok__law_mixed (hd : Hd w K mg) : Fok P w K mg base 2 (PySem.Str.ofString "_law_mixed") [(PySem.Str.ofString "source"), (PySem.Str.ofString "things")] (spB K 1 F__law_mixed) := by
  obtain ⟨fd, Fd⟩ := hd.fd__law_mixed
  exact ⟨⟨fd, fn__law_mixed hd Fd, Fd.bindsN fun _ _ _ _ _ _ us hl => match us, hl with | [_, _], _ => rfl⟩, hd.gl__law_mixed, Fd.kp⟩
/-! ### _law_all_watching -/
theorem sc__law_all_watching : FnScope [(PySem.Str.ofString "m"), (PySem.Str.ofString "n"), (PySem.Str.ofString "rows"), (PySem.Str.ofString "columns"), (PySem.Str.ofString "both"), (PySem.Str.ofString "r"), (PySem.Str.ofString "c"), (PySem.Str.ofString "part")] [(PySem.Str.ofString "m"), (PySem.Str.ofString "n")] (defScope (top 28)) := ⟨rfl, rfl, rfl, by decide +kernel, rfl, by decide +kernel, by decide +kernel⟩
def b__law_all_watching : FS := (fSeq (fTgE (eP (dTup (aCons (kO (.int 1)) (aCons (kO (.int 1)) (aCons (kO (.int 0)) aNil))))) (gT 3 (gCons' (gN 2) (gCons' (gN 3) (gCons' (gN 4) gNil'))))) (fSeq (fFor (iRng1 (lCons (rdV 0) lNil)) (gN 5) (fSeq (fSet 2 (o2 mulO (rdV 2) (o2 subI (o2 shlI (kO (.int 1)) (rdV 1)) (kO (.int 1))))) (fSeq (fFz 2) fNx))) (fSeq (fFor (iRng1 (lCons (rdV 1) lNil)) (gN 6) (fSeq (fSet 3 (o2 mulO (rdV 3) (o2 subI (o2 shlI (kO (.int 1)) (rdV 0)) (kO (.int 1))))) (fSeq (fFz 3) fNx))) (fSeq (fFor (iRng1 (lCons (o2 addO (rdV 0) (kO (.int 1))) lNil)) (gN 5) (fSeq (fSet 7 (dCall 2 F__law_choose (aCons (frV 0) (aCons (frV 5) aNil)))) (fSeq (fFz 7) (fSeq (fFor (iRng1 (lCons (rdV 1) lNil)) (gN 6) (fSeq (fSet 7 (o2 mulO (rdV 7) (o2 subI (o2 shlI (kO (.int 1)) (o2 subI (rdV 0) (rdV 5))) (kO (.int 1))))) (fSeq (fFz 7) fNx))) (fSeq (fSet 4 (o2 addO (rdV 4) (oIf (bO (o2 eqO (o2 mulO (o2 divI (rdV 5) (kO (.int 2))) (kO (.int 2))) (rdV 5))) (frV 7) (o2 subI (kO (.int 0)) (rdV 7))))) (fSeq (fFz 4) fNx)))))) (fRet (o2 subI (o2 addO (rdV 2) (rdV 3)) (rdV 4)))))))
def F__law_all_watching : Fn := fnOf 8 b__law_all_watching
theorem fn__law_all_watching (hd : Hd w K mg) {fd : FuncData} (Fd : FunD K (PySem.Str.ofString "_law_all_watching") (PySem.Str.ofString "_law_all_watching") (defArgs (top 28)) (defBody (top 28)) (defScope (top 28)) [] [] (He.ga K (PySem.Str.ofString "_law_all_watching")) fd) : FnOk P w K mg base CX0 2 (He.ga K (PySem.Str.ofString "_law_all_watching")) fd [(PySem.Str.ofString "m"), (PySem.Str.ofString "n")] (spP K 2 F__law_all_watching) := by
  refine fn_ok Fd sc__law_all_watching rfl rfl fun cdv A outer s H E hr => ?_
  have hu := hr.units
  have hND := sc__law_all_watching.nd
  exact (s_cons (s_tgE (e_p (d_tup (a_cons d_int (a_cons d_int (a_cons d_int a_nil))))) (g_tup rfl (g_cons (g_name 2 hND) (g_cons (g_name 3 hND) (g_cons (g_name 4 hND) g_nil))))) (s_cons (s_for PassesOwn.never rfl (i_range1 rfl hd.fr_range (ra_cons (r_var 0) ra_nil)) (g_name 5 hND) (s_cons (s_set 2 hND (d_op2 op_mulO rd_mulO (r_var 2) (DP.pr (d_op2 op_sub rd_sub (DP.pr (d_op2 op_shl rd_shl (DP.pr d_int) (r_var 1))) (DP.pr d_int))))) (s_fz 2 s_nil))) (s_cons (s_for PassesOwn.never rfl (i_range1 rfl hd.fr_range (ra_cons (r_var 1) ra_nil)) (g_name 6 hND) (s_cons (s_set 3 hND (d_op2 op_mulO rd_mulO (r_var 3) (DP.pr (d_op2 op_sub rd_sub (DP.pr (d_op2 op_shl rd_shl (DP.pr d_int) (r_var 0))) (DP.pr d_int))))) (s_fz 3 s_nil))) (s_cons (s_for PassesOwn.never rfl (i_range1 rfl hd.fr_range (ra_cons (DP.pr (d_op2 op_addO rd_addO (r_var 0) (DP.pr d_int))) ra_nil)) (g_name 5 hND) (s_cons (s_set 7 hND (d_callF (ok__law_choose hd) hr (by decide) (a_cons (d_var 0) (a_cons (d_var 5) a_nil)))) (s_fz 7 (s_cons (s_for PassesOwn.never rfl (i_range1 rfl hd.fr_range (ra_cons (r_var 1) ra_nil)) (g_name 6 hND) (s_cons (s_set 7 hND (d_op2 op_mulO rd_mulO (r_var 7) (DP.pr (d_op2 op_sub rd_sub (DP.pr (d_op2 op_shl rd_shl (DP.pr d_int) (DP.pr (d_op2 op_sub rd_sub (r_var 0) (r_var 5))))) (DP.pr d_int))))) (s_fz 7 s_nil))) (s_cons (s_set 4 hND (d_op2 op_addO rd_addO (r_var 4) (DP.pr (d_if (t_cmp (op_eqG hu) rd_eq (DP.pr (d_op2 op_mulO rd_mulO (DP.pr (d_op2 op_fdiv rd_div (r_var 5) (DP.pr d_int))) (DP.pr d_int))) (r_var 5)) (d_var 7) (d_op2 op_sub rd_sub (DP.pr d_int) (r_var 7)))))) (s_fz 4 s_nil)))))) (s_one (s_ret (d_op2 op_sub rd_sub (DP.pr (d_op2 op_addO rd_addO (r_var 2) (r_var 3))) (r_var 4))))))))
theorem ok__law_all_watching (hd : Hd w K mg) : Fok P w K mg base 2 (PySem.Str.ofString "_law_all_watching") [(PySem.Str.ofString "m"), (PySem.Str.ofString "n")] (spP K 2 F__law_all_watching) := by
  obtain ⟨fd, Fd⟩ := hd.fd__law_all_watching
  exact ⟨⟨fd, fn__law_all_watching hd Fd, Fd.bindsN fun _ _ _ _ _ _ us hl => match us, hl with | [_, _], _ => rfl⟩, hd.gl__law_all_watching, Fd.kp⟩
/-! ### watched_squares -/
theorem sc_watched_squares : FnScope [(PySem.Str.ofString "piece"), (PySem.Str.ofString "m"), (PySem.Str.ofString "n"), (PySem.Str.ofString "lot"), (PySem.Str.ofString "known"), (PySem.Str.ofString "square"), (PySem.Str.ofString "other")] [(PySem.Str.ofString "piece"), (PySem.Str.ofString "m"), (PySem.Str.ofString "n"), (PySem.Str.ofString "lot")] (defScope (top 12)) := ⟨rfl, rfl, rfl, by decide +kernel, rfl, by decide +kernel, by decide +kernel⟩
def b_watched_squares : FS := (fSeq (fSet 4 (fun _ => some (.dt []))) (fSeq (fFor (iSeq (frV 3)) (gN 5) (fSeq (fPutA 4 (rdV 5) (kO (.bool true))) (fUpd 4 (oDc dkeyT .dt 7 [6] (iSeq (dCall 4 F_reached_squares (aCons (frV 0) (aCons (frV 1) (aCons (frV 2) (aCons (frV 5) aNil)))))) (gN 6) bYes (frV 6) (kO (.bool true)))))) (fRet (oL (g1 tupO) (lCons (oL (g1 sortA) (lCons (rdV 4) lNil)) lNil)))))
def F_watched_squares : Fn := fnOf 7 b_watched_squares
theorem fn_watched_squares (hd : Hd w K mg) {fd : FuncData} (Fd : FunD K (PySem.Str.ofString "watched_squares") (PySem.Str.ofString "watched_squares") (defArgs (top 12)) (defBody (top 12)) (defScope (top 12)) [] [] (He.ga K (PySem.Str.ofString "watched_squares")) fd) : FnOk P w K mg base CX0 3 (He.ga K (PySem.Str.ofString "watched_squares")) fd [(PySem.Str.ofString "piece"), (PySem.Str.ofString "m"), (PySem.Str.ofString "n"), (PySem.Str.ofString "lot")] (spP K 4 F_watched_squares) := by
  refine fn_ok Fd sc_watched_squares rfl rfl fun cdv A outer s H E hr => ?_
  have hu := hr.units
  have hND := sc_watched_squares.nd
  exact (s_cons (s_set 4 hND d_newT) (s_cons (s_for PassesOwn.never rfl (i_seq (d_var 3)) (g_name 5 hND) (s_cons (s_put 4 hu d_bl (r_var 5)) (s_one (s_update 4 hu (d_dc (tabT _) (n := 7) [((PySem.Str.ofString "other"), 6)] hu rfl hND (i_seq (d_callF (ok_reached_squares hd) hr (by decide) (a_cons (d_var 0) (a_cons (d_var 1) (a_cons (d_var 2) (a_cons (d_var 5) a_nil)))))) (blkOk_by (by kernel_rfl)) (fun _ _ _ _ _ => (g_name 6 hND)) (fun _ _ _ _ _ => ts_nil) (fun _ _ _ _ _ => (d_var 6)) (fun _ _ _ _ _ => d_bl)))))) (s_one (s_ret (d_callTy call_tuple_of rd_tuple rfl hd.fr_tuple boot_tuple (ra_cons (DP.pr (d_callB (op_sortAll rfl hu) rd_sortAll rfl hd.fr_sorted boot_sorted (ra_cons (r_var 4) ra_nil))) ra_nil))))))
theorem ok_watched_squares (hd : Hd w K mg) : Fok P w K mg base 3 (PySem.Str.ofString "watched_squares") [(PySem.Str.ofString "piece"), (PySem.Str.ofString "m"), (PySem.Str.ofString "n"), (PySem.Str.ofString "lot")] (spP K 4 F_watched_squares) := by
  obtain ⟨fd, Fd⟩ := hd.fd_watched_squares
  exact ⟨⟨fd, fn_watched_squares hd Fd, Fd.bindsN fun _ _ _ _ _ _ us hl => match us, hl with | [_, _, _, _], _ => rfl⟩, hd.gl_watched_squares, Fd.kp⟩
/-! ### is_at_peace -/
theorem sc_is_at_peace : FnScope [(PySem.Str.ofString "piece"), (PySem.Str.ofString "m"), (PySem.Str.ofString "n"), (PySem.Str.ofString "lot"), (PySem.Str.ofString "square"), (PySem.Str.ofString "other")] [(PySem.Str.ofString "piece"), (PySem.Str.ofString "m"), (PySem.Str.ofString "n"), (PySem.Str.ofString "lot")] (defScope (top 14)) := ⟨rfl, rfl, rfl, by decide +kernel, rfl, by decide +kernel, by decide +kernel⟩
def b_is_at_peace : FS := (fSeq (fFor (iSeq (frV 3)) (gN 4) (fIf (bO (oL (g1 anyO) (lCons (oLc 6 [5] (iSeq (dCall 4 F_reached_squares (aCons (frV 0) (aCons (frV 1) (aCons (frV 2) (aCons (frV 4) aNil)))))) (gN 5) bYes (o2 inA (rdV 5) (rdV 3))) lNil))) (fRet (kO (.bool false))) fNx)) (fRet (kO (.bool true))))
def F_is_at_peace : Fn := fnOf 6 b_is_at_peace
theorem fn_is_at_peace (hd : Hd w K mg) {fd : FuncData} (Fd : FunD K (PySem.Str.ofString "is_at_peace") (PySem.Str.ofString "is_at_peace") (defArgs (top 14)) (defBody (top 14)) (defScope (top 14)) [] [] (He.ga K (PySem.Str.ofString "is_at_peace")) fd) : FnOk P w K mg base CX0 3 (He.ga K (PySem.Str.ofString "is_at_peace")) fd [(PySem.Str.ofString "piece"), (PySem.Str.ofString "m"), (PySem.Str.ofString "n"), (PySem.Str.ofString "lot")] (spP K 4 F_is_at_peace) := by
  refine fn_ok Fd sc_is_at_peace rfl rfl fun cdv A outer s H E hr => ?_
  have hu := hr.units
  have hND := sc_is_at_peace.nd
  exact (s_cons (s_for PassesOwn.never rfl (i_seq (d_var 3)) (g_name 4 hND) (s_one (s_if (t_val (d_callB (cr_any rfl) rd_any rfl hd.fr_any boot_any (ra_cons (DP.pr (d_lc (n := 6) [((PySem.Str.ofString "other"), 5)] rfl hND (i_seq (d_callF (ok_reached_squares hd) hr (by decide) (a_cons (d_var 0) (a_cons (d_var 1) (a_cons (d_var 2) (a_cons (d_var 4) a_nil)))))) (blkOk_by (by kernel_rfl)) (fun _ _ _ _ _ => (g_name 5 hND)) (fun _ _ _ _ _ => ts_nil) (fun _ _ _ _ _ => (d_cmp (op_inB hu) rd_inB (r_var 5) (r_var 3))))) ra_nil))) (s_one (s_ret d_bl)) s_nil))) (s_one (s_ret d_bl)))
theorem ok_is_at_peace (hd : Hd w K mg) : Fok P w K mg base 3 (PySem.Str.ofString "is_at_peace") [(PySem.Str.ofString "piece"), (PySem.Str.ofString "m"), (PySem.Str.ofString "n"), (PySem.Str.ofString "lot")] (spP K 4 F_is_at_peace) := by
  obtain ⟨fd, Fd⟩ := hd.fd_is_at_peace
  exact ⟨⟨fd, fn_is_at_peace hd Fd, Fd.bindsN fun _ _ _ _ _ _ us hl => match us, hl with | [_, _, _, _], _ => rfl⟩, hd.gl_is_at_peace, Fd.kp⟩
/-! ### peaceful_next -/
theorem sc_peaceful_next : FnScope [(PySem.Str.ofString "piece"), (PySem.Str.ofString "m"), (PySem.Str.ofString "n"), (PySem.Str.ofString "lots"), (PySem.Str.ofString "squares"), (PySem.Str.ofString "found"), (PySem.Str.ofString "lot"), (PySem.Str.ofString "square"), (PySem.Str.ofString "near"), (PySem.Str.ofString "other")] [(PySem.Str.ofString "piece"), (PySem.Str.ofString "m"), (PySem.Str.ofString "n"), (PySem.Str.ofString "lots")] (defScope (top 18)) := ⟨rfl, rfl, rfl, by decide +kernel, rfl, by decide +kernel, by decide +kernel⟩
def b_peaceful_next : FS := (fSeq (fPar [4, 5] (lCons (dCall 2 F_all_squares (aCons (frV 1) (aCons (frV 2) aNil))) (lCons (dLst aNil) lNil))) (fSeq (fFz 4) (fSeq (fAcc 5) (fSeq (fFor (iSeq (frV 3)) (gN 6) (fFor (iSeq (frV 4)) (gN 7) (fIf (bOr (bO (o2 eqO (rdV 6) (dTup aNil))) (bO (o2 gtA (rdV 7) (o2 ixA (rdV 6) (o1 negI (kO (.int 1))))))) (fSeq (fSet 8 (dCall 4 F_reached_squares (aCons (frV 0) (aCons (frV 1) (aCons (frV 2) (aCons (frV 7) aNil)))))) (fSeq (fFz 8) (fExt 5 (oIf (bO (oL (g1 anyO) (lCons (oLc 10 [9] (iSeq (frV 6)) (gN 9) bYes (o2 inA (rdV 9) (rdV 8))) lNil))) (dLst aNil) (dLst (aCons (dTup (aStar (rdV 6) (aCons (frV 7) aNil))) aNil)))))) fNx))) (fSeq (fFz 5) (fRet (frV 5)))))))
def F_peaceful_next : Fn := fnOf 10 b_peaceful_next
theorem fn_peaceful_next (hd : Hd w K mg) {fd : FuncData} (Fd : FunD K (PySem.Str.ofString "peaceful_next") (PySem.Str.ofString "peaceful_next") (defArgs (top 18)) (defBody (top 18)) (defScope (top 18)) [] [] (He.ga K (PySem.Str.ofString "peaceful_next")) fd) : FnOk P w K mg base CX0 3 (He.ga K (PySem.Str.ofString "peaceful_next")) fd [(PySem.Str.ofString "piece"), (PySem.Str.ofString "m"), (PySem.Str.ofString "n"), (PySem.Str.ofString "lots")] (spP K 4 F_peaceful_next) := by
  refine fn_ok Fd sc_peaceful_next rfl rfl fun cdv A outer s H E hr => ?_
  have hu := hr.units
  have hND := sc_peaceful_next.nd
  exact (s_cons (s_par2 4 5 rfl hND (oa_cons (d_callF (ok_all_squares hd) hr (by decide) (a_cons (d_var 1) (a_cons (d_var 2) a_nil))) (oa_cons (d_lst a_nil) oa_nil))) (s_fz 4 (s_acc 5 (s_cons (s_for PassesOwn.never rfl (i_seq (d_var 3)) (g_name 6 hND) (s_one (s_for PassesOwn.never rfl (i_seq (d_var 4)) (g_name 7 hND) (s_one (s_if (t_w (w_or (t_cmp (op_eqG hu) rd_eq (r_var 6) (DP.pr (d_tup a_nil))) (w_or1 (t_cmp (op_gtA hu) rd_gtA (r_var 7) (d_ixR hu (r_var 6) (DP.pr (d_un un_neg rd_neg (DP.pr d_int)))))))) (s_cons (s_set 8 hND (d_callF (ok_reached_squares hd) hr (by decide) (a_cons (d_var 0) (a_cons (d_var 1) (a_cons (d_var 2) (a_cons (d_var 7) a_nil)))))) (s_fz 8 (s_one (s_extend 5 (d_if (t_val (d_callB (cr_any rfl) rd_any rfl hd.fr_any boot_any (ra_cons (DP.pr (d_lc (n := 10) [((PySem.Str.ofString "other"), 9)] rfl hND (i_seq (d_var 6)) (blkOk_by (by kernel_rfl)) (fun _ _ _ _ _ => (g_name 9 hND)) (fun _ _ _ _ _ => ts_nil) (fun _ _ _ _ _ => (d_cmp (op_inB hu) rd_inB (r_var 9) (r_var 8))))) ra_nil))) (d_lst a_nil) (d_lst (a_cons (d_tup (a_star (r_var 6) (a_cons (d_var 7) a_nil))) a_nil))))))) s_nil))))) (s_fz 5 (s_one (s_ret (d_var 5))))))))
theorem ok_peaceful_next (hd : Hd w K mg) : Fok P w K mg base 3 (PySem.Str.ofString "peaceful_next") [(PySem.Str.ofString "piece"), (PySem.Str.ofString "m"), (PySem.Str.ofString "n"), (PySem.Str.ofString "lots")] (spP K 4 F_peaceful_next) := by
  obtain ⟨fd, Fd⟩ := hd.fd_peaceful_next
  exact ⟨⟨fd, fn_peaceful_next hd Fd, Fd.bindsN fun _ _ _ _ _ _ us hl => match us, hl with | [_, _, _, _], _ => rfl⟩, hd.gl_peaceful_next, Fd.kp⟩
/-! ### is_watching_board -/
theorem sc_is_watching_board : FnScope [(PySem.Str.ofString "piece"), (PySem.Str.ofString "m"), (PySem.Str.ofString "n"), (PySem.Str.ofString "lot")] [(PySem.Str.ofString "piece"), (PySem.Str.ofString "m"), (PySem.Str.ofString "n"), (PySem.Str.ofString "lot")] (defScope (top 13)) := ⟨rfl, rfl, rfl, by decide +kernel, rfl, by decide +kernel, by decide +kernel⟩
def b_is_watching_board : FS := (fRet (o2 eqO (oL (g1 lenA) (lCons (dCall 4 F_watched_squares (aCons (frV 0) (aCons (frV 1) (aCons (frV 2) (aCons (frV 3) aNil))))) lNil)) (o2 mulO (rdV 1) (rdV 2))))
def F_is_watching_board : Fn := fnOf 4 b_is_watching_board
theorem fn_is_watching_board (hd : Hd w K mg) {fd : FuncData} (Fd : FunD K (PySem.Str.ofString "is_watching_board") (PySem.Str.ofString "is_watching_board") (defArgs (top 13)) (defBody (top 13)) (defScope (top 13)) [] [] (He.ga K (PySem.Str.ofString "is_watching_board")) fd) : FnOk P w K mg base CX0 4 (He.ga K (PySem.Str.ofString "is_watching_board")) fd [(PySem.Str.ofString "piece"), (PySem.Str.ofString "m"), (PySem.Str.ofString "n"), (PySem.Str.ofString "lot")] (spP K 4 F_is_watching_board) := by
  refine fn_ok Fd sc_is_watching_board rfl rfl fun cdv A outer s H E hr => ?_
  have hu := hr.units
  have hND := sc_is_watching_board.nd
  exact (s_one (s_ret (d_cmp (op_eqG hu) rd_eq (DP.pr (d_callB op_lenA rd_lenA rfl hd.fr_len PySem.boot_len (ra_cons (DP.pr (d_callF (ok_watched_squares hd) hr (by decide) (a_cons (d_var 0) (a_cons (d_var 1) (a_cons (d_var 2) (a_cons (d_var 3) a_nil)))))) ra_nil))) (DP.pr (d_op2 op_mulO rd_mulO (r_var 1) (r_var 2))))))
theorem ok_is_watching_board (hd : Hd w K mg) : Fok P w K mg base 4 (PySem.Str.ofString "is_watching_board") [(PySem.Str.ofString "piece"), (PySem.Str.ofString "m"), (PySem.Str.ofString "n"), (PySem.Str.ofString "lot")] (spP K 4 F_is_watching_board) := by
  obtain ⟨fd, Fd⟩ := hd.fd_is_watching_board
  exact ⟨⟨fd, fn_is_watching_board hd Fd, Fd.bindsN fun _ _ _ _ _ _ us hl => match us, hl with | [_, _, _, _], _ => rfl⟩, hd.gl_is_watching_board, Fd.kp⟩
/-! ### most_at_peace -/
theorem sc_most_at_peace : FnScope [(PySem.Str.ofString "piece"), (PySem.Str.ofString "m"), (PySem.Str.ofString "n"), (PySem.Str.ofString "lots"), (PySem.Str.ofString "many")] [(PySem.Str.ofString "piece"), (PySem.Str.ofString "m"), (PySem.Str.ofString "n")] (defScope (top 19)) := ⟨rfl, rfl, rfl, by decide +kernel, rfl, by decide +kernel, by decide +kernel⟩
def b_most_at_peace : FS := (fSeq (fPar [3, 4] (lCons (dLst (aCons (dTup aNil) aNil)) (lCons (o1 negI (kO (.int 1))) lNil))) (fSeq (fFz 3) (fSeq (fWh (fun _ => 65536) (bO (o2 neO (rdV 3) (dLst aNil))) (fSeq (fPar [3, 4] (lCons (dCall 4 F_peaceful_next (aCons (frV 0) (aCons (frV 1) (aCons (frV 2) (aCons (frV 3) aNil))))) (lCons (o2 addO (rdV 4) (kO (.int 1))) lNil))) (fSeq (fFz 3) (fSeq (fFz 4) fNx)))) (fRet (frV 4)))))
def F_most_at_peace : Fn := fnOf 5 b_most_at_peace
theorem fn_most_at_peace (hd : Hd w K mg) {fd : FuncData} (Fd : FunD K (PySem.Str.ofString "most_at_peace") (PySem.Str.ofString "most_at_peace") (defArgs (top 19)) (defBody (top 19)) (defScope (top 19)) [] [] (He.ga K (PySem.Str.ofString "most_at_peace")) fd) : FnOk P w K mg base CX0 4 (He.ga K (PySem.Str.ofString "most_at_peace")) fd [(PySem.Str.ofString "piece"), (PySem.Str.ofString "m"), (PySem.Str.ofString "n")] (spP K 3 F_most_at_peace) := by
  refine fn_ok Fd sc_most_at_peace rfl rfl fun cdv A outer s H E hr => ?_
  have hu := hr.units
  have hND := sc_most_at_peace.nd
  exact (s_cons (s_par2 3 4 rfl hND (oa_cons (d_lst (a_cons (d_tup a_nil) a_nil)) (oa_cons (d_un un_neg rd_neg (DP.pr d_int)) oa_nil))) (s_fz 3 (s_cons (s_while (fun _ => 65536) PassesOwn.never (t_cmp (op_neG hu) rd_ne (r_var 3) (DP.pr (d_lst a_nil))) (s_cons (s_par2 3 4 rfl hND (oa_cons (d_callF (ok_peaceful_next hd) hr (by decide) (a_cons (d_var 0) (a_cons (d_var 1) (a_cons (d_var 2) (a_cons (d_var 3) a_nil))))) (oa_cons (d_op2 op_addO rd_addO (r_var 4) (DP.pr d_int)) oa_nil))) (s_fz 3 (s_fz 4 s_nil)))) (s_one (s_ret (d_var 4))))))
theorem ok_most_at_peace (hd : Hd w K mg) : Fok P w K mg base 4 (PySem.Str.ofString "most_at_peace") [(PySem.Str.ofString "piece"), (PySem.Str.ofString "m"), (PySem.Str.ofString "n")] (spP K 3 F_most_at_peace) := by
  obtain ⟨fd, Fd⟩ := hd.fd_most_at_peace
  exact ⟨⟨fd, fn_most_at_peace hd Fd, Fd.bindsN fun _ _ _ _ _ _ us hl => match us, hl with | [_, _, _], _ => rfl⟩, hd.gl_most_at_peace, Fd.kp⟩
/-! ### _law_hits_right -/
theorem sc__law_hits_right : FnScope [(PySem.Str.ofString "source"), (PySem.Str.ofString "n"), (PySem.Str.ofString "lot"), (PySem.Str.ofString "due"), (PySem.Str.ofString "counts"), (PySem.Str.ofString "facts"), (PySem.Str.ofString "k"), (PySem.Str.ofString "many"), (PySem.Str.ofString "found"), (PySem.Str.ofString "row"), (PySem.Str.ofString "free"), (PySem.Str.ofString "falls"), (PySem.Str.ofString "squares"), (PySem.Str.ofString "r"), (PySem.Str.ofString "c"), (PySem.Str.ofString "square")] [(PySem.Str.ofString "source"), (PySem.Str.ofString "n")] (defScope (top 31)) := ⟨rfl, rfl, rfl, by decide +kernel, rfl, by decide +kernel, by decide +kernel⟩
def b__law_hits_right : FS := (fSeq (fSetE 2 (e1L (g1 tupO) (e1L (g1 sortA) (eSl (eCallB 0 1 F__law_mixed (eaCons (eP (dCall 2 F__law_squares (aCons (frV 1) (aCons (frV 1) aNil)))) eaNil)) oNoneE (oSomeE (eCallB 0 1 F__law_pick (eaCons (eP (oL (g2 min2O) (lCons (kO (.int 7)) (lCons (o2 addO (o2 mulO (rdV 1) (rdV 1)) (kO (.int 1))) lNil)))) eaNil))))))) (fSeq (fSet 3 (kO (.int 0))) (fSeq (fSet 4 (dCall 3 F__law_within (aCons (frV 1) (aCons (frV 1) (aCons (frV 2) aNil))))) (fSeq (fFz 4) (fSeq (fSet 5 (dLst (aCons (kO (.int 1)) aNil))) (fSeq (fAcc 5) (fSeq (fFor (iRng1 (lCons (rdV 1) lNil)) (gN 6) (fApp 5 (o2 mulO (o2 ixA (rdV 5) (rdV 6)) (o2 addO (rdV 6) (kO (.int 1)))))) (fSeq (fFor (iEnumD (aCons (frV 4) aNil)) (gT 2 (gCons' (gN 6) (gCons' (gN 7) gNil'))) (fSeq (fSet 3 (o2 addO (rdV 3) (o2 mulO (o2 mulO (rdV 7) (o2 ixA (rdV 5) (o2 subI (rdV 1) (rdV 6)))) (oIf (bO (o2 eqO (o2 mulO (o2 divI (rdV 6) (kO (.int 2))) (kO (.int 2))) (rdV 6))) (kO (.int 1)) (o2 subI (kO (.int 0)) (kO (.int 1))))))) (fSeq (fFz 3) fNx))) (fSeq (fSet 8 (kO (.int 0))) (fSeq (fFor (iSeq (dCall 1 F__law_arrangements (aCons (frV 1) aNil))) (gN 9) (fSeq (fSet 12 (oL (g1 tupO) (lCons (oLc 16 [13, 14] (iEnumD (aCons (frV 9) aNil)) (gT 2 (gCons' (gN 13) (gCons' (gN 14) gNil'))) bYes (dTup (aCons (frV 13) (aCons (frV 14) aNil)))) lNil))) (fSeq (fIf (bO (o2 isnO (dCall 4 F_is_at_peace (aCons (kO (.str (PySem.Str.ofString "rook"))) (aCons (frV 1) (aCons (frV 1) (aCons (frV 12) aNil))))) (kO (.bool true)))) (fRet (kO (.bool false))) fNx) (fSeq (fSet 8 (o2 addO (rdV 8) (oL (g1 intO) (lCons (o2 eqO (oLc 16 [15] (iSeq (frV 12)) (gN 15) (bO (o2 inA (rdV 15) (rdV 2))) (kO (.int 1))) (dLst aNil)) lNil)))) (fSeq (fFz 8) fNx))))) (fSeq (fSet 10 (oL (g1 lenA) (lCons (oLc 16 [9] (iSeq (dCall 1 F__law_arrangements (aCons (frV 1) aNil))) (gN 9) (bO (o2 eqO (oLc 16 [13, 14] (iEnumD (aCons (frV 9) aNil)) (gT 2 (gCons' (gN 13) (gCons' (gN 14) gNil'))) (bO (o2 eqO (rdV 13) (rdV 14))) (kO (.int 1))) (dLst aNil))) (frV 9)) lNil))) (fSeq (fSet 11 (oL (g1 sumO) (lCons (oLc 16 [6] (iRng1 (lCons (o2 addO (rdV 1) (kO (.int 1))) lNil)) (gN 6) bYes (o2 divI (o2 mulO (oIf (bO (o2 eqO (o2 mulO (o2 divI (rdV 6) (kO (.int 2))) (kO (.int 2))) (rdV 6))) (kO (.int 1)) (o2 subI (kO (.int 0)) (kO (.int 1)))) (o2 ixA (rdV 5) (rdV 1))) (o2 ixA (rdV 5) (rdV 6)))) lNil))) (fRet (oAnd (o2 eqO (rdV 8) (rdV 3)) (oAnd (o2 eqO (rdV 10) (rdV 11)) (o2 eqO (dCall 3 F_rook_peaces (aCons (frV 1) (aCons (frV 1) (aCons (frV 1) aNil)))) (o2 ixA (rdV 5) (rdV 1))))))))))))))))))
def c0__law_hits_right : FS := (fSetE 2 (e1L (g1 tupO) (e1L (g1 sortA) (eSl (eCallB 0 1 F__law_mixed (eaCons (eP (dCall 2 F__law_squares (aCons (frV 1) (aCons (frV 1) aNil)))) eaNil)) oNoneE (oSomeE (eCallB 0 1 F__law_pick (eaCons (eP (oL (g2 min2O) (lCons (kO (.int 7)) (lCons (o2 addO (o2 mulO (rdV 1) (rdV 1)) (kO (.int 1))) lNil)))) eaNil)))))))
def c1__law_hits_right : FS := (fSeq (fSet 3 (kO (.int 0))) (fSeq (fSet 4 (dCall 3 F__law_within (aCons (frV 1) (aCons (frV 1) (aCons (frV 2) aNil))))) (fSeq (fFz 4) (fSeq (fSet 5 (dLst (aCons (kO (.int 1)) aNil))) (fSeq (fAcc 5) (fSeq (fFor (iRng1 (lCons (rdV 1) lNil)) (gN 6) (fApp 5 (o2 mulO (o2 ixA (rdV 5) (rdV 6)) (o2 addO (rdV 6) (kO (.int 1)))))) (fSeq (fFor (iEnumD (aCons (frV 4) aNil)) (gT 2 (gCons' (gN 6) (gCons' (gN 7) gNil'))) (fSeq (fSet 3 (o2 addO (rdV 3) (o2 mulO (o2 mulO (rdV 7) (o2 ixA (rdV 5) (o2 subI (rdV 1) (rdV 6)))) (oIf (bO (o2 eqO (o2 mulO (o2 divI (rdV 6) (kO (.int 2))) (kO (.int 2))) (rdV 6))) (kO (.int 1)) (o2 subI (kO (.int 0)) (kO (.int 1))))))) (fSeq (fFz 3) fNx))) (fSeq (fSet 8 (kO (.int 0))) (fSeq (fFor (iSeq (dCall 1 F__law_arrangements (aCons (frV 1) aNil))) (gN 9) (fSeq (fSet 12 (oL (g1 tupO) (lCons (oLc 16 [13, 14] (iEnumD (aCons (frV 9) aNil)) (gT 2 (gCons' (gN 13) (gCons' (gN 14) gNil'))) bYes (dTup (aCons (frV 13) (aCons (frV 14) aNil)))) lNil))) (fSeq (fIf (bO (o2 isnO (dCall 4 F_is_at_peace (aCons (kO (.str (PySem.Str.ofString "rook"))) (aCons (frV 1) (aCons (frV 1) (aCons (frV 12) aNil))))) (kO (.bool true)))) (fRet (kO (.bool false))) fNx) (fSeq (fSet 8 (o2 addO (rdV 8) (oL (g1 intO) (lCons (o2 eqO (oLc 16 [15] (iSeq (frV 12)) (gN 15) (bO (o2 inA (rdV 15) (rdV 2))) (kO (.int 1))) (dLst aNil)) lNil)))) (fSeq (fFz 8) fNx))))) (fSeq (fSet 10 (oL (g1 lenA) (lCons (oLc 16 [9] (iSeq (dCall 1 F__law_arrangements (aCons (frV 1) aNil))) (gN 9) (bO (o2 eqO (oLc 16 [13, 14] (iEnumD (aCons (frV 9) aNil)) (gT 2 (gCons' (gN 13) (gCons' (gN 14) gNil'))) (bO (o2 eqO (rdV 13) (rdV 14))) (kO (.int 1))) (dLst aNil))) (frV 9)) lNil))) (fSeq (fSet 11 (oL (g1 sumO) (lCons (oLc 16 [6] (iRng1 (lCons (o2 addO (rdV 1) (kO (.int 1))) lNil)) (gN 6) bYes (o2 divI (o2 mulO (oIf (bO (o2 eqO (o2 mulO (o2 divI (rdV 6) (kO (.int 2))) (kO (.int 2))) (rdV 6))) (kO (.int 1)) (o2 subI (kO (.int 0)) (kO (.int 1)))) (o2 ixA (rdV 5) (rdV 1))) (o2 ixA (rdV 5) (rdV 6)))) lNil))) (fRet (oAnd (o2 eqO (rdV 8) (rdV 3)) (oAnd (o2 eqO (rdV 10) (rdV 11)) (o2 eqO (dCall 3 F_rook_peaces (aCons (frV 1) (aCons (frV 1) (aCons (frV 1) aNil)))) (o2 ixA (rdV 5) (rdV 1)))))))))))))))))
theorem g__law_hits_right : b__law_hits_right = (fSeq c0__law_hits_right c1__law_hits_right) := by
  simp only [b__law_hits_right, c0__law_hits_right, c1__law_hits_right, fSeq_assoc]
def F__law_hits_right : FnB := fnOfB 16 b__law_hits_right
theorem fn__law_hits_right (hd : Hd w K mg) {fd : FuncData} (Fd : FunD K (PySem.Str.ofString "_law_hits_right") (PySem.Str.ofString "_law_hits_right") (defArgs (top 31)) (defBody (top 31)) (defScope (top 31)) [] [] (He.ga K (PySem.Str.ofString "_law_hits_right")) fd) : FnOk P w K mg base CX0 4 (He.ga K (PySem.Str.ofString "_law_hits_right")) fd [(PySem.Str.ofString "source"), (PySem.Str.ofString "n")] (spB K 1 F__law_hits_right) := by
  refine fn_okB Fd sc__law_hits_right rfl rfl fun cdv A outer s H E hr => ?_
  have hu := hr.units
  have hND := sc__law_hits_right.nd
  exact (s_cons (s_setE 2 hND (e_callTy call_tuple_of rd_tuple rfl hd.fr_tuple boot_tuple (e_callB (op_sortAll rfl hu) rd_sortAll rfl hd.fr_sorted boot_sorted (e_sl (e_lentF 0 (ok__law_mixed hd) hr (by decide) (ea_cons (e_p (d_callF (ok__law_squares hd) hr (by decide) (a_cons (d_var 1) (a_cons (d_var 1) a_nil)))) ea_nil)) pe_none (pe_some (e_lentF 0 (ok__law_pick hd) hr (by decide) (ea_cons (e_p (d_callB (call_min2 rfl) rd_min2 rfl hd.fr_min boot_min (ra_cons (DP.pr d_int) (ra_cons (DP.pr (d_op2 op_addO rd_addO (DP.pr (d_op2 op_mulO rd_mulO (r_var 1) (r_var 1))) (DP.pr d_int))) ra_nil)))) ea_nil))))))) (s_cons (s_set 3 hND d_int) (s_cons (s_set 4 hND (d_callF (ok__law_within hd) hr (by decide) (a_cons (d_var 1) (a_cons (d_var 1) (a_cons (d_var 2) a_nil))))) (s_fz 4 (s_cons (s_set 5 hND (d_lst (a_cons d_int a_nil))) (s_acc 5 (s_cons (s_for PassesOwn.never rfl (i_range1 rfl hd.fr_range (ra_cons (r_var 1) ra_nil)) (g_name 6 hND) (s_one (s_append 5 (d_op2 op_mulO rd_mulO (d_ixR hu (r_var 5) (r_var 6)) (DP.pr (d_op2 op_addO rd_addO (r_var 6) (DP.pr d_int))))))) (s_cons (s_for PassesOwn.never rfl (i_enum rfl hd.fr_enumerate (a_cons (d_var 4) a_nil)) (g_tup rfl (g_cons (g_name 6 hND) (g_cons (g_name 7 hND) g_nil))) (s_cons (s_set 3 hND (d_op2 op_addO rd_addO (r_var 3) (DP.pr (d_op2 op_mulO rd_mulO (DP.pr (d_op2 op_mulO rd_mulO (r_var 7) (d_ixR hu (r_var 5) (DP.pr (d_op2 op_sub rd_sub (r_var 1) (r_var 6)))))) (DP.pr (d_if (t_cmp (op_eqG hu) rd_eq (DP.pr (d_op2 op_mulO rd_mulO (DP.pr (d_op2 op_fdiv rd_div (r_var 6) (DP.pr d_int))) (DP.pr d_int))) (r_var 6)) d_int (d_op2 op_sub rd_sub (DP.pr d_int) (DP.pr d_int)))))))) (s_fz 3 s_nil))) (s_cons (s_set 8 hND d_int) (s_cons (s_for PassesOwn.never rfl (i_seq (d_callF (ok__law_arrangements hd) hr (by decide) (a_cons (d_var 1) a_nil))) (g_name 9 hND) (s_cons (s_set 12 hND (d_callTy call_tuple_of rd_tuple rfl hd.fr_tuple boot_tuple (ra_cons (DP.pr (d_lc (n := 16) [((PySem.Str.ofString "r"), 13), ((PySem.Str.ofString "c"), 14)] rfl hND (i_enum rfl hd.fr_enumerate (a_cons (d_var 9) a_nil)) (blkOk_by (by kernel_rfl)) (fun _ _ _ _ _ => (g_tup rfl (g_cons (g_name 13 hND) (g_cons (g_name 14 hND) g_nil)))) (fun _ _ _ _ _ => ts_nil) (fun _ _ _ _ _ => (d_tup (a_cons (d_var 13) (a_cons (d_var 14) a_nil)))))) ra_nil))) (s_cons (s_if (t_cmp op_isnA rd_isn (DP.pr (d_callF (ok_is_at_peace hd) hr (by decide) (a_cons d_str (a_cons (d_var 1) (a_cons (d_var 1) (a_cons (d_var 12) a_nil)))))) (DP.pr d_bl)) (s_one (s_ret d_bl)) s_nil) (s_cons (s_set 8 hND (d_op2 op_addO rd_addO (r_var 8) (DP.pr (d_callTy call_int1 rd_int rfl hd.fr_int boot_int (ra_cons (DP.pr (d_cmp (op_eqG hu) rd_eq (DP.pr (d_lc (n := 16) [((PySem.Str.ofString "square"), 15)] rfl hND (i_seq (d_var 12)) (blkOk_by (by kernel_rfl)) (fun _ _ _ _ _ => (g_name 15 hND)) (fun _ _ _ _ _ => (ts_one (t_cmp (op_inB hu) rd_inB (r_var 15) (r_var 2)))) (fun _ _ _ _ _ => d_int))) (DP.pr (d_lst a_nil)))) ra_nil))))) (s_fz 8 s_nil))))) (s_cons (s_set 10 hND (d_callB op_lenA rd_lenA rfl hd.fr_len PySem.boot_len (ra_cons (DP.pr (d_lc (n := 16) [((PySem.Str.ofString "row"), 9)] rfl hND (i_seq (d_callF (ok__law_arrangements hd) hr (by decide) (a_cons (d_var 1) a_nil))) (blkOk_by (by kernel_rfl)) (fun _ _ _ _ _ => (g_name 9 hND)) (fun _ _ _ _ _ => (ts_one (t_cmp (op_eqG hu) rd_eq (DP.pr (d_lc (n := 16) [((PySem.Str.ofString "r"), 13), ((PySem.Str.ofString "c"), 14)] rfl hND (i_enum rfl hd.fr_enumerate (a_cons (d_var 9) a_nil)) (blkOk_by (by kernel_rfl)) (fun _ _ _ _ _ => (g_tup rfl (g_cons (g_name 13 hND) (g_cons (g_name 14 hND) g_nil)))) (fun _ _ _ _ _ => (ts_one (t_cmp (op_eqG hu) rd_eq (r_var 13) (r_var 14)))) (fun _ _ _ _ _ => d_int))) (DP.pr (d_lst a_nil))))) (fun _ _ _ _ _ => (d_var 9)))) ra_nil))) (s_cons (s_set 11 hND (d_callB (cr_sum rfl) rd_sum rfl hd.fr_sum boot_sum (ra_cons (DP.pr (d_lc (n := 16) [((PySem.Str.ofString "k"), 6)] rfl hND (i_range1 rfl hd.fr_range (ra_cons (DP.pr (d_op2 op_addO rd_addO (r_var 1) (DP.pr d_int))) ra_nil)) (blkOk_by (by kernel_rfl)) (fun _ _ _ _ _ => (g_name 6 hND)) (fun _ _ _ _ _ => ts_nil) (fun _ _ _ _ _ => (d_op2 op_fdiv rd_div (DP.pr (d_op2 op_mulO rd_mulO (DP.pr (d_if (t_cmp (op_eqG hu) rd_eq (DP.pr (d_op2 op_mulO rd_mulO (DP.pr (d_op2 op_fdiv rd_div (r_var 6) (DP.pr d_int))) (DP.pr d_int))) (r_var 6)) d_int (d_op2 op_sub rd_sub (DP.pr d_int) (DP.pr d_int)))) (d_ixR hu (r_var 5) (r_var 1)))) (d_ixR hu (r_var 5) (r_var 6)))))) ra_nil))) (s_one (s_ret (d_and (d_cmp (op_eqG hu) rd_eq (r_var 8) (r_var 3)) (d_and (d_cmp (op_eqG hu) rd_eq (r_var 10) (r_var 11)) (d_one (d_cmp (op_eqG hu) rd_eq (DP.pr (d_callF (ok_rook_peaces hd) hr (by decide) (a_cons (d_var 1) (a_cons (d_var 1) (a_cons (d_var 1) a_nil))))) (d_ixR hu (r_var 5) (r_var 1))))))))))))))))))))
theorem ok__law_hits_right (hd : Hd w K mg) : Fok P w K mg base 4 (PySem.Str.ofString "_law_hits_right") [(PySem.Str.ofString "source"), (PySem.Str.ofString "n")] (spB K 1 F__law_hits_right) := by
  obtain ⟨fd, Fd⟩ := hd.fd__law_hits_right
  exact ⟨⟨fd, fn__law_hits_right hd Fd, Fd.bindsN fun _ _ _ _ _ _ us hl => match us, hl with | [_, _], _ => rfl⟩, hd.gl__law_hits_right, Fd.kp⟩
/-! ### least_lots -/
theorem sc_least_lots : FnScope [(PySem.Str.ofString "piece"), (PySem.Str.ofString "m"), (PySem.Str.ofString "n"), (PySem.Str.ofString "squares"), (PySem.Str.ofString "lots"), (PySem.Str.ofString "some"), (PySem.Str.ofString "lot")] [(PySem.Str.ofString "piece"), (PySem.Str.ofString "m"), (PySem.Str.ofString "n")] (defScope (top 16)) := ⟨rfl, rfl, rfl, by decide +kernel, rfl, by decide +kernel, by decide +kernel⟩
def b_least_lots : FS := (fSeq (fPar [3, 4, 5] (lCons (dCall 2 F_all_squares (aCons (frV 1) (aCons (frV 2) aNil))) (lCons (dLst (aCons (dTup aNil) aNil)) (lCons (dLst aNil) lNil)))) (fSeq (fFz 3) (fSeq (fFz 4) (fSeq (fFz 5) (fSeq (fWh (fun _ => 65536) (bO (o2 eqO (rdV 5) (dLst aNil))) (fSeq (fSet 4 (dCall 2 F_next_lots (aCons (frV 4) (aCons (frV 3) aNil)))) (fSeq (fFz 4) (fSeq (fSet 5 (oLc 7 [6] (iSeq (frV 4)) (gN 6) (bO (dCall 4 F_is_watching_board (aCons (frV 0) (aCons (frV 1) (aCons (frV 2) (aCons (frV 6) aNil)))))) (frV 6))) (fSeq (fFz 5) fNx))))) (fRet (frV 5)))))))
def F_least_lots : Fn := fnOf 7 b_least_lots
theorem fn_least_lots (hd : Hd w K mg) {fd : FuncData} (Fd : FunD K (PySem.Str.ofString "least_lots") (PySem.Str.ofString "least_lots") (defArgs (top 16)) (defBody (top 16)) (defScope (top 16)) [] [] (He.ga K (PySem.Str.ofString "least_lots")) fd) : FnOk P w K mg base CX0 5 (He.ga K (PySem.Str.ofString "least_lots")) fd [(PySem.Str.ofString "piece"), (PySem.Str.ofString "m"), (PySem.Str.ofString "n")] (spP K 3 F_least_lots) := by
  refine fn_ok Fd sc_least_lots rfl rfl fun cdv A outer s H E hr => ?_
  have hu := hr.units
  have hND := sc_least_lots.nd
  exact (s_cons (s_par3 3 4 5 rfl hND (oa_cons (d_callF (ok_all_squares hd) hr (by decide) (a_cons (d_var 1) (a_cons (d_var 2) a_nil))) (oa_cons (d_lst (a_cons (d_tup a_nil) a_nil)) (oa_cons (d_lst a_nil) oa_nil)))) (s_fz 3 (s_fz 4 (s_fz 5 (s_cons (s_while (fun _ => 65536) PassesOwn.never (t_cmp (op_eqG hu) rd_eq (r_var 5) (DP.pr (d_lst a_nil))) (s_cons (s_set 4 hND (d_callF (ok_next_lots hd) hr (by decide) (a_cons (d_var 4) (a_cons (d_var 3) a_nil)))) (s_fz 4 (s_cons (s_setLc (n := 7) 5 [((PySem.Str.ofString "lot"), 6)] rfl hND (i_seq (d_var 4)) (blkOk_by (by kernel_rfl)) (fun _ _ _ _ _ => (g_name 6 hND)) (fun _ _ _ _ _ => (ts_one (t_val (d_callF (ok_is_watching_board hd) hr (by decide) (a_cons (d_var 0) (a_cons (d_var 1) (a_cons (d_var 2) (a_cons (d_var 6) a_nil)))))))) (fun _ _ _ _ _ => (d_var 6)) (sw_true rfl rfl rfl (by decide +kernel))) (s_fz 5 s_nil))))) (s_one (s_ret (d_var 5))))))))
theorem ok_least_lots (hd : Hd w K mg) : Fok P w K mg base 5 (PySem.Str.ofString "least_lots") [(PySem.Str.ofString "piece"), (PySem.Str.ofString "m"), (PySem.Str.ofString "n")] (spP K 3 F_least_lots) := by
  obtain ⟨fd, Fd⟩ := hd.fd_least_lots
  exact ⟨⟨fd, fn_least_lots hd Fd, Fd.bindsN fun _ _ _ _ _ _ us hl => match us, hl with | [_, _, _], _ => rfl⟩, hd.gl_least_lots, Fd.kp⟩
/-! ### least_pieces -/
theorem sc_least_pieces : FnScope [(PySem.Str.ofString "piece"), (PySem.Str.ofString "m"), (PySem.Str.ofString "n")] [(PySem.Str.ofString "piece"), (PySem.Str.ofString "m"), (PySem.Str.ofString "n")] (defScope (top 17)) := ⟨rfl, rfl, rfl, by decide +kernel, rfl, by decide +kernel, by decide +kernel⟩
def b_least_pieces : FS := (fRet (oL (g1 lenA) (lCons (o2 ixA (dCall 3 F_least_lots (aCons (frV 0) (aCons (frV 1) (aCons (frV 2) aNil)))) (kO (.int 0))) lNil)))
def F_least_pieces : Fn := fnOf 3 b_least_pieces
theorem fn_least_pieces (hd : Hd w K mg) {fd : FuncData} (Fd : FunD K (PySem.Str.ofString "least_pieces") (PySem.Str.ofString "least_pieces") (defArgs (top 17)) (defBody (top 17)) (defScope (top 17)) [] [] (He.ga K (PySem.Str.ofString "least_pieces")) fd) : FnOk P w K mg base CX0 6 (He.ga K (PySem.Str.ofString "least_pieces")) fd [(PySem.Str.ofString "piece"), (PySem.Str.ofString "m"), (PySem.Str.ofString "n")] (spP K 3 F_least_pieces) := by
  refine fn_ok Fd sc_least_pieces rfl rfl fun cdv A outer s H E hr => ?_
  have hu := hr.units
  have hND := sc_least_pieces.nd
  exact (s_one (s_ret (d_callB op_lenA rd_lenA rfl hd.fr_len PySem.boot_len (ra_cons (d_ixR hu (DP.pr (d_callF (ok_least_lots hd) hr (by decide) (a_cons (d_var 0) (a_cons (d_var 1) (a_cons (d_var 2) a_nil))))) (DP.pr d_int)) ra_nil))))
theorem ok_least_pieces (hd : Hd w K mg) : Fok P w K mg base 6 (PySem.Str.ofString "least_pieces") [(PySem.Str.ofString "piece"), (PySem.Str.ofString "m"), (PySem.Str.ofString "n")] (spP K 3 F_least_pieces) := by
  obtain ⟨fd, Fd⟩ := hd.fd_least_pieces
  exact ⟨⟨fd, fn_least_pieces hd Fd, Fd.bindsN fun _ _ _ _ _ _ us hl => match us, hl with | [_, _, _], _ => rfl⟩, hd.gl_least_pieces, Fd.kp⟩
/-! ### law -/
theorem sc_law : FnScope [(PySem.Str.ofString "script"), (PySem.Str.ofString "source"), (PySem.Str.ofString "m"), (PySem.Str.ofString "n"), (PySem.Str.ofString "squares"), (PySem.Str.ofString "watching"), (PySem.Str.ofString "peaces"), (PySem.Str.ofString "lot"), (PySem.Str.ofString "few"), (PySem.Str.ofString "k"), (PySem.Str.ofString "told"), (PySem.Str.ofString "late"), (PySem.Str.ofString "power"), (PySem.Str.ofString "turn"), (PySem.Str.ofString "some"), (PySem.Str.ofString "watches"), (PySem.Str.ofString "a")] [(PySem.Str.ofString "script")] (defScope (top 32)) := ⟨rfl, rfl, rfl, by decide +kernel, rfl, by decide +kernel, by decide +kernel⟩
def lb0_law : FS := (fSeq (fSet 14 (oL (g1 tupO) (lCons (oLc 17 [16] (iSeq (frV 7)) (gN 16) bYes (o2 ixS (rdV 4) (rdV 16))) lNil))) (fSeq (fSet 15 (dCall 3 F_watch_as_rooks (aCons (frV 2) (aCons (frV 3) (aCons (frV 14) aNil))))) (fSeq (fFz 15) (fSeq (fIf (bO (o2 neO (dCall 4 F_is_watching_board (aCons (kO (.str (PySem.Str.ofString "rook"))) (aCons (frV 2) (aCons (frV 3) (aCons (frV 14) aNil))))) (rdV 15))) (fRet (kO (.bool false))) fNx) (fSeq (fSet 5 (o2 addO (rdV 5) (oL (g1 intO) (lCons (rdV 15) lNil)))) (fSeq (fFz 5) (fIf (bO (dCall 4 F_is_at_peace (aCons (kO (.str (PySem.Str.ofString "rook"))) (aCons (frV 2) (aCons (frV 3) (aCons (frV 14) aNil)))))) (fPutA 6 (oL (g1 lenA) (lCons (rdV 7) lNil)) (o2 addO (oGet (rdV 6) (oL (g1 lenA) (lCons (rdV 7) lNil)) (kO (.int 0))) (kO (.int 1)))) fNx)))))))
def lg0_law : FT := (gN 7)
def lb1_law : FS := (fSeq (fSet 12 (o2 mulO (rdV 12) (rdV 2))) (fSeq (fFz 12) fNx))
def lg1_law : FT := (gN 13)
def b_law : FS := (fSeq (fSetE 1 (eCallB 0 0 F__law_source eaNil)) (fSeq (fTgE (eCallB 1 1 F__law_of (eaCons (eP (dLst (aCons (dTup (aCons (kO (.int 1)) (aCons (kO (.int 1)) aNil))) (aCons (dTup (aCons (kO (.int 1)) (aCons (kO (.int 4)) aNil))) (aCons (dTup (aCons (kO (.int 2)) (aCons (kO (.int 2)) aNil))) (aCons (dTup (aCons (kO (.int 2)) (aCons (kO (.int 3)) aNil))) (aCons (dTup (aCons (kO (.int 3)) (aCons (kO (.int 2)) aNil))) (aCons (dTup (aCons (kO (.int 2)) (aCons (kO (.int 4)) aNil))) (aCons (dTup (aCons (kO (.int 3)) (aCons (kO (.int 3)) aNil))) aNil))))))))) eaNil)) (gT 2 (gCons' (gN 2) (gCons' (gN 3) gNil')))) (fSeq (fPar [4, 5, 6] (lCons (dCall 2 F__law_squares (aCons (frV 2) (aCons (frV 3) aNil))) (lCons (kO (.int 0)) (lCons (fun _ => some (.dk [])) lNil)))) (fSeq (fFz 4) (fSeq (fFor (iSeq (dCall 1 F__law_all_lots (aCons (o2 mulO (rdV 2) (rdV 3)) aNil))) lg0_law lb0_law) (fSeq (fIf (bOr (bO (o2 neO (rdV 5) (dCall 2 F__law_all_watching (aCons (frV 2) (aCons (frV 3) aNil))))) (bO (o2 neO (dCall 3 F_least_pieces (aCons (kO (.str (PySem.Str.ofString "rook"))) (aCons (frV 2) (aCons (frV 3) aNil)))) (dCall 2 F_rook_number (aCons (frV 2) (aCons (frV 3) aNil)))))) (fRet (kO (.bool false))) fNx) (fSeq (fSet 8 (oL (g2 min2O) (lCons (kO (.int 9)) (lCons (o2 addO (o2 mulO (rdV 2) (rdV 3)) (kO (.int 1))) lNil)))) (fSeq (fIf (bO (o2 neO (oLc 17 [9] (iRng1 (lCons (rdV 8) lNil)) (gN 9) bYes (dCall 3 F_rook_peaces (aCons (frV 2) (aCons (frV 3) (aCons (frV 9) aNil))))) (oLc 17 [9] (iRng1 (lCons (rdV 8) lNil)) (gN 9) bYes (oGet (rdV 6) (rdV 9) (kO (.int 0)))))) (fRet (kO (.bool false))) fNx) (fSeq (fIf (bO (o2 neO (dCall 3 F_most_at_peace (aCons (kO (.str (PySem.Str.ofString "rook"))) (aCons (frV 2) (aCons (frV 3) aNil)))) (oL (g2 min2O) (lCons (rdV 2) (lCons (rdV 3) lNil))))) (fRet (kO (.bool false))) fNx) (fSeq (fTgE (eO mkTup (eaCons (e2O addO (eP (kO (.int 2))) (eCallB 1 1 F__law_pick (eaCons (eP (kO (.int 7))) eaNil))) (eaCons (e2O addO (eP (kO (.int 1))) (eCallB 1 1 F__law_pick (eaCons (eP (kO (.int 8))) eaNil))) (eaCons (e2O addO (eP (kO (.int 1))) (eCallB 1 1 F__law_pick (eaCons (eP (kO (.int 8))) eaNil))) eaNil)))) (gT 3 (gCons' (gN 2) (gCons' (gN 3) (gCons' (gN 9) gNil'))))) (fSeq (fFz 2) (fSeq (fFz 3) (fSeq (fFz 9) (fSeq (fSet 10 (dCall 3 F_rook_peaces (aCons (frV 2) (aCons (frV 3) (aCons (frV 9) aNil))))) (fSeq (fFz 10) (fSeq (fSet 11 (o2 addO (dCall 3 F_rook_peaces (aCons (o2 subI (rdV 2) (kO (.int 1))) (aCons (frV 3) (aCons (frV 9) aNil)))) (o2 mulO (o2 addO (o2 subI (rdV 3) (rdV 9)) (kO (.int 1))) (dCall 3 F_rook_peaces (aCons (o2 subI (rdV 2) (kO (.int 1))) (aCons (frV 3) (aCons (o2 subI (rdV 9) (kO (.int 1))) aNil))))))) (fSeq (fFz 11) (fSeq (fIf (bOr (bO (o2 neO (rdV 10) (dCall 3 F_rook_peaces (aCons (frV 3) (aCons (frV 2) (aCons (frV 9) aNil)))))) (bAnd (bO (o2 leA (rdV 9) (rdV 3))) (bO (o2 neO (rdV 10) (rdV 11))))) (fRet (kO (.bool false))) fNx) (fSeq (fIf (bOr (bO (o2 neO (rdV 10) (o2 mulO (dCall 2 F__law_choose (aCons (frV 2) (aCons (frV 9) aNil))) (dCall 3 F_rook_peaces (aCons (frV 9) (aCons (frV 3) (aCons (frV 9) aNil))))))) (bO (o2 neO (dCall 2 F_rook_lots (aCons (frV 2) (aCons (frV 3) aNil))) (dCall 2 F_rook_lots (aCons (frV 3) (aCons (frV 2) aNil)))))) (fRet (kO (.bool false))) fNx) (fSeq (fSet 12 (kO (.int 1))) (fSeq (fFor (iRng1 (lCons (rdV 2) lNil)) lg1_law lb1_law) (fSeq (fIf (bO (o2 neO (dCall 2 F_rook_lots (aCons (frV 2) (aCons (frV 2) aNil))) (o2 subI (o2 mulO (kO (.int 2)) (rdV 12)) (dCall 3 F_rook_peaces (aCons (frV 2) (aCons (frV 2) (aCons (frV 2) aNil))))))) (fRet (kO (.bool false))) fNx) (fRetE (eCallB 1 1 F__law_hits_right (eaCons (e2O addO (eP (kO (.int 1))) (eCallB 1 1 F__law_pick (eaCons (eP (kO (.int 5))) eaNil))) eaNil)))))))))))))))))))))))))
def c0_law : FS := (fSetE 1 (eCallB 0 0 F__law_source eaNil))
def c1_law : FS := (fTgE (eCallB 1 1 F__law_of (eaCons (eP (dLst (aCons (dTup (aCons (kO (.int 1)) (aCons (kO (.int 1)) aNil))) (aCons (dTup (aCons (kO (.int 1)) (aCons (kO (.int 4)) aNil))) (aCons (dTup (aCons (kO (.int 2)) (aCons (kO (.int 2)) aNil))) (aCons (dTup (aCons (kO (.int 2)) (aCons (kO (.int 3)) aNil))) (aCons (dTup (aCons (kO (.int 3)) (aCons (kO (.int 2)) aNil))) (aCons (dTup (aCons (kO (.int 2)) (aCons (kO (.int 4)) aNil))) (aCons (dTup (aCons (kO (.int 3)) (aCons (kO (.int 3)) aNil))) aNil))))))))) eaNil)) (gT 2 (gCons' (gN 2) (gCons' (gN 3) gNil'))))
def c2_law : FS := (fPar [4, 5, 6] (lCons (dCall 2 F__law_squares (aCons (frV 2) (aCons (frV 3) aNil))) (lCons (kO (.int 0)) (lCons (fun _ => some (.dk [])) lNil))))
def c3_law : FS := (fFz 4)
def c4_law : FS := (fFor (iSeq (dCall 1 F__law_all_lots (aCons (o2 mulO (rdV 2) (rdV 3)) aNil))) lg0_law lb0_law)
def c5_law : FS := (fIf (bOr (bO (o2 neO (rdV 5) (dCall 2 F__law_all_watching (aCons (frV 2) (aCons (frV 3) aNil))))) (bO (o2 neO (dCall 3 F_least_pieces (aCons (kO (.str (PySem.Str.ofString "rook"))) (aCons (frV 2) (aCons (frV 3) aNil)))) (dCall 2 F_rook_number (aCons (frV 2) (aCons (frV 3) aNil)))))) (fRet (kO (.bool false))) fNx)
def c6_law : FS := (fSet 8 (oL (g2 min2O) (lCons (kO (.int 9)) (lCons (o2 addO (o2 mulO (rdV 2) (rdV 3)) (kO (.int 1))) lNil))))
def c7_law : FS := (fIf (bO (o2 neO (oLc 17 [9] (iRng1 (lCons (rdV 8) lNil)) (gN 9) bYes (dCall 3 F_rook_peaces (aCons (frV 2) (aCons (frV 3) (aCons (frV 9) aNil))))) (oLc 17 [9] (iRng1 (lCons (rdV 8) lNil)) (gN 9) bYes (oGet (rdV 6) (rdV 9) (kO (.int 0)))))) (fRet (kO (.bool false))) fNx)
def c8_law : FS := (fIf (bO (o2 neO (dCall 3 F_most_at_peace (aCons (kO (.str (PySem.Str.ofString "rook"))) (aCons (frV 2) (aCons (frV 3) aNil)))) (oL (g2 min2O) (lCons (rdV 2) (lCons (rdV 3) lNil))))) (fRet (kO (.bool false))) fNx)
def c9_law : FS := (fTgE (eO mkTup (eaCons (e2O addO (eP (kO (.int 2))) (eCallB 1 1 F__law_pick (eaCons (eP (kO (.int 7))) eaNil))) (eaCons (e2O addO (eP (kO (.int 1))) (eCallB 1 1 F__law_pick (eaCons (eP (kO (.int 8))) eaNil))) (eaCons (e2O addO (eP (kO (.int 1))) (eCallB 1 1 F__law_pick (eaCons (eP (kO (.int 8))) eaNil))) eaNil)))) (gT 3 (gCons' (gN 2) (gCons' (gN 3) (gCons' (gN 9) gNil')))))
def c10_law : FS := (fFz 2)
def c11_law : FS := (fFz 3)
def c12_law : FS := (fFz 9)
def c13_law : FS := (fSet 10 (dCall 3 F_rook_peaces (aCons (frV 2) (aCons (frV 3) (aCons (frV 9) aNil)))))
def c14_law : FS := (fFz 10)
def c15_law : FS := (fSet 11 (o2 addO (dCall 3 F_rook_peaces (aCons (o2 subI (rdV 2) (kO (.int 1))) (aCons (frV 3) (aCons (frV 9) aNil)))) (o2 mulO (o2 addO (o2 subI (rdV 3) (rdV 9)) (kO (.int 1))) (dCall 3 F_rook_peaces (aCons (o2 subI (rdV 2) (kO (.int 1))) (aCons (frV 3) (aCons (o2 subI (rdV 9) (kO (.int 1))) aNil)))))))
def c16_law : FS := (fFz 11)
def c17_law : FS := (fIf (bOr (bO (o2 neO (rdV 10) (dCall 3 F_rook_peaces (aCons (frV 3) (aCons (frV 2) (aCons (frV 9) aNil)))))) (bAnd (bO (o2 leA (rdV 9) (rdV 3))) (bO (o2 neO (rdV 10) (rdV 11))))) (fRet (kO (.bool false))) fNx)
def c18_law : FS := (fIf (bOr (bO (o2 neO (rdV 10) (o2 mulO (dCall 2 F__law_choose (aCons (frV 2) (aCons (frV 9) aNil))) (dCall 3 F_rook_peaces (aCons (frV 9) (aCons (frV 3) (aCons (frV 9) aNil))))))) (bO (o2 neO (dCall 2 F_rook_lots (aCons (frV 2) (aCons (frV 3) aNil))) (dCall 2 F_rook_lots (aCons (frV 3) (aCons (frV 2) aNil)))))) (fRet (kO (.bool false))) fNx)
def c19_law : FS := (fSet 12 (kO (.int 1)))
def c20_law : FS := (fFor (iRng1 (lCons (rdV 2) lNil)) lg1_law lb1_law)
def c21_law : FS := (fIf (bO (o2 neO (dCall 2 F_rook_lots (aCons (frV 2) (aCons (frV 2) aNil))) (o2 subI (o2 mulO (kO (.int 2)) (rdV 12)) (dCall 3 F_rook_peaces (aCons (frV 2) (aCons (frV 2) (aCons (frV 2) aNil))))))) (fRet (kO (.bool false))) fNx)
def c22_law : FS := (fRetE (eCallB 1 1 F__law_hits_right (eaCons (e2O addO (eP (kO (.int 1))) (eCallB 1 1 F__law_pick (eaCons (eP (kO (.int 5))) eaNil))) eaNil)))
theorem g_law : b_law = (fSeq c0_law (fSeq c1_law (fSeq c2_law (fSeq c3_law (fSeq c4_law (fSeq c5_law (fSeq c6_law (fSeq c7_law (fSeq c8_law (fSeq c9_law (fSeq c10_law (fSeq c11_law (fSeq c12_law (fSeq c13_law (fSeq c14_law (fSeq c15_law (fSeq c16_law (fSeq c17_law (fSeq c18_law (fSeq c19_law (fSeq c20_law (fSeq c21_law c22_law)))))))))))))))))))))) := by
  simp only [b_law, c0_law, c1_law, c2_law, c3_law, c4_law, c5_law, c6_law, c7_law, c8_law, c9_law, c10_law, c11_law, c12_law, c13_law, c14_law, c15_law, c16_law, c17_law, c18_law, c19_law, c20_law, c21_law, c22_law, fSeq_assoc]
def F_law : FnB := fnOfB 17 b_law
theorem fn_law (hd : Hd w K mg) {fd : FuncData} (Fd : FunD K (PySem.Str.ofString "law") (PySem.Str.ofString "law") (defArgs (top 32)) (defBody (top 32)) (defScope (top 32)) [] [] (He.ga K (PySem.Str.ofString "law")) fd) : FnOk P w K mg base CX0 7 (He.ga K (PySem.Str.ofString "law")) fd [(PySem.Str.ofString "script")] (spB K 0 F_law) := by
  refine fn_okB Fd sc_law rfl rfl fun cdv A outer s H E hr => ?_
  have hu := hr.units
  have hND := sc_law.nd
  exact (s_cons (s_setE 1 hND (e_lentF 0 (ok__law_source hd) hr (by decide) ea_nil)) (s_cons (s_tgE (e_lentF 1 (ok__law_of hd) hr (by decide) (ea_cons (e_p (d_lst (a_cons (d_tup (a_cons d_int (a_cons d_int a_nil))) (a_cons (d_tup (a_cons d_int (a_cons d_int a_nil))) (a_cons (d_tup (a_cons d_int (a_cons d_int a_nil))) (a_cons (d_tup (a_cons d_int (a_cons d_int a_nil))) (a_cons (d_tup (a_cons d_int (a_cons d_int a_nil))) (a_cons (d_tup (a_cons d_int (a_cons d_int a_nil))) (a_cons (d_tup (a_cons d_int (a_cons d_int a_nil))) a_nil))))))))) ea_nil)) (g_tup rfl (g_cons (g_name 2 hND) (g_cons (g_name 3 hND) g_nil)))) (s_cons (s_parT [4, 5, 6] rfl (oa_cons (d_callF (ok__law_squares hd) hr (by decide) (a_cons (d_var 2) (a_cons (d_var 3) a_nil))) (oa_cons d_int (oa_cons d_newK oa_nil))) (pgs_cons (pg_name (i := 4) hND rfl (by first | exact .inl rfl | exact .inr rfl) (by first | exact .inl rfl | exact .inr rfl)) (pgs_cons (pg_name (i := 5) hND rfl (by first | exact .inl rfl | exact .inr rfl) (by first | exact .inl rfl | exact .inr rfl)) (pgs_cons (pg_name (i := 6) hND rfl (by first | exact .inl rfl | exact .inr rfl) (by first | exact .inl rfl | exact .inr rfl)) pgs_nil rfl) rfl) rfl)) (s_fz 4 (s_cons (s_for PassesOwn.never rfl (i_seq (d_callF (ok__law_all_lots hd) hr (by decide) (a_cons (d_op2 op_mulO rd_mulO (r_var 2) (r_var 3)) a_nil))) (g_name 7 hND) (s_cons (s_set 14 hND (d_callTy call_tuple_of rd_tuple rfl hd.fr_tuple boot_tuple (ra_cons (DP.pr (d_lc (n := 17) [((PySem.Str.ofString "a"), 16)] rfl hND (i_seq (d_var 7)) (blkOk_by (by kernel_rfl)) (fun _ _ _ _ _ => (g_name 16 hND)) (fun _ _ _ _ _ => ts_nil) (fun _ _ _ _ _ => (d_ixA hu (r_var 4) (r_var 16))))) ra_nil))) (s_cons (s_set 15 hND (d_callF (ok_watch_as_rooks hd) hr (by decide) (a_cons (d_var 2) (a_cons (d_var 3) (a_cons (d_var 14) a_nil))))) (s_fz 15 (s_cons (s_if (t_cmp (op_neG hu) rd_ne (DP.pr (d_callF (ok_is_watching_board hd) hr (by decide) (a_cons d_str (a_cons (d_var 2) (a_cons (d_var 3) (a_cons (d_var 14) a_nil)))))) (r_var 15)) (s_one (s_ret d_bl)) s_nil) (s_cons (s_set 5 hND (d_op2 op_addO rd_addO (r_var 5) (DP.pr (d_callTy call_int1 rd_int rfl hd.fr_int boot_int (ra_cons (r_var 15) ra_nil))))) (s_fz 5 (s_one (s_if (t_val (d_callF (ok_is_at_peace hd) hr (by decide) (a_cons d_str (a_cons (d_var 2) (a_cons (d_var 3) (a_cons (d_var 14) a_nil)))))) (s_one (s_put 6 hu (d_op2 op_addO rd_addO (DP.pr (d_get2 hu (r_var 6) (DP.pr (d_callB op_lenA rd_lenA rfl hd.fr_len PySem.boot_len (ra_cons (r_var 7) ra_nil))) (DP.pr d_int))) (DP.pr d_int)) (DP.pr (d_callB op_lenA rd_lenA rfl hd.fr_len PySem.boot_len (ra_cons (r_var 7) ra_nil))))) s_nil))))))))) (s_cons (s_if (t_w (w_or (t_cmp (op_neG hu) rd_ne (r_var 5) (DP.pr (d_callF (ok__law_all_watching hd) hr (by decide) (a_cons (d_var 2) (a_cons (d_var 3) a_nil))))) (w_or1 (t_cmp (op_neG hu) rd_ne (DP.pr (d_callF (ok_least_pieces hd) hr (by decide) (a_cons d_str (a_cons (d_var 2) (a_cons (d_var 3) a_nil))))) (DP.pr (d_callF (ok_rook_number hd) hr (by decide) (a_cons (d_var 2) (a_cons (d_var 3) a_nil)))))))) (s_one (s_ret d_bl)) s_nil) (s_cons (s_set 8 hND (d_callB (call_min2 rfl) rd_min2 rfl hd.fr_min boot_min (ra_cons (DP.pr d_int) (ra_cons (DP.pr (d_op2 op_addO rd_addO (DP.pr (d_op2 op_mulO rd_mulO (r_var 2) (r_var 3))) (DP.pr d_int))) ra_nil)))) (s_cons (s_if (t_cmp (op_neG hu) rd_ne (DP.pr (d_lc (n := 17) [((PySem.Str.ofString "k"), 9)] rfl hND (i_range1 rfl hd.fr_range (ra_cons (r_var 8) ra_nil)) (blkOk_by (by kernel_rfl)) (fun _ _ _ _ _ => (g_name 9 hND)) (fun _ _ _ _ _ => ts_nil) (fun _ _ _ _ _ => (d_callF (ok_rook_peaces hd) hr (by decide) (a_cons (d_var 2) (a_cons (d_var 3) (a_cons (d_var 9) a_nil))))))) (DP.pr (d_lc (n := 17) [((PySem.Str.ofString "k"), 9)] rfl hND (i_range1 rfl hd.fr_range (ra_cons (r_var 8) ra_nil)) (blkOk_by (by kernel_rfl)) (fun _ _ _ _ _ => (g_name 9 hND)) (fun _ _ _ _ _ => ts_nil) (fun _ _ _ _ _ => (d_get2 hu (r_var 6) (r_var 9) (DP.pr d_int)))))) (s_one (s_ret d_bl)) s_nil) (s_cons (s_if (t_cmp (op_neG hu) rd_ne (DP.pr (d_callF (ok_most_at_peace hd) hr (by decide) (a_cons d_str (a_cons (d_var 2) (a_cons (d_var 3) a_nil))))) (DP.pr (d_callB (call_min2 rfl) rd_min2 rfl hd.fr_min boot_min (ra_cons (r_var 2) (ra_cons (r_var 3) ra_nil))))) (s_one (s_ret d_bl)) s_nil) (s_cons (s_tgE (e_tup (ea_cons (e_op2 op_addO rd_addO (e_p d_int) (e_lentF 1 (ok__law_pick hd) hr (by decide) (ea_cons (e_p d_int) ea_nil))) (ea_cons (e_op2 op_addO rd_addO (e_p d_int) (e_lentF 1 (ok__law_pick hd) hr (by decide) (ea_cons (e_p d_int) ea_nil))) (ea_cons (e_op2 op_addO rd_addO (e_p d_int) (e_lentF 1 (ok__law_pick hd) hr (by decide) (ea_cons (e_p d_int) ea_nil))) ea_nil)))) (g_tup rfl (g_cons (g_name 2 hND) (g_cons (g_name 3 hND) (g_cons (g_name 9 hND) g_nil))))) (s_fz 2 (s_fz 3 (s_fz 9 (s_cons (s_set 10 hND (d_callF (ok_rook_peaces hd) hr (by decide) (a_cons (d_var 2) (a_cons (d_var 3) (a_cons (d_var 9) a_nil))))) (s_fz 10 (s_cons (s_set 11 hND (d_op2 op_addO rd_addO (DP.pr (d_callF (ok_rook_peaces hd) hr (by decide) (a_cons (d_op2 op_sub rd_sub (r_var 2) (DP.pr d_int)) (a_cons (d_var 3) (a_cons (d_var 9) a_nil))))) (DP.pr (d_op2 op_mulO rd_mulO (DP.pr (d_op2 op_addO rd_addO (DP.pr (d_op2 op_sub rd_sub (r_var 3) (r_var 9))) (DP.pr d_int))) (DP.pr (d_callF (ok_rook_peaces hd) hr (by decide) (a_cons (d_op2 op_sub rd_sub (r_var 2) (DP.pr d_int)) (a_cons (d_var 3) (a_cons (d_op2 op_sub rd_sub (r_var 9) (DP.pr d_int)) a_nil))))))))) (s_fz 11 (s_cons (s_if (t_w (w_or (t_cmp (op_neG hu) rd_ne (r_var 10) (DP.pr (d_callF (ok_rook_peaces hd) hr (by decide) (a_cons (d_var 3) (a_cons (d_var 2) (a_cons (d_var 9) a_nil)))))) (w_or1 (t_w (w_and (t_cmp (op_leA hu) rd_leA (r_var 9) (r_var 3)) (w_and1 (t_cmp (op_neG hu) rd_ne (r_var 10) (r_var 11)))))))) (s_one (s_ret d_bl)) s_nil) (s_cons (s_if (t_w (w_or (t_cmp (op_neG hu) rd_ne (r_var 10) (DP.pr (d_op2 op_mulO rd_mulO (DP.pr (d_callF (ok__law_choose hd) hr (by decide) (a_cons (d_var 2) (a_cons (d_var 9) a_nil)))) (DP.pr (d_callF (ok_rook_peaces hd) hr (by decide) (a_cons (d_var 9) (a_cons (d_var 3) (a_cons (d_var 9) a_nil)))))))) (w_or1 (t_cmp (op_neG hu) rd_ne (DP.pr (d_callF (ok_rook_lots hd) hr (by decide) (a_cons (d_var 2) (a_cons (d_var 3) a_nil)))) (DP.pr (d_callF (ok_rook_lots hd) hr (by decide) (a_cons (d_var 3) (a_cons (d_var 2) a_nil)))))))) (s_one (s_ret d_bl)) s_nil) (s_cons (s_set 12 hND d_int) (s_cons (s_for PassesOwn.never rfl (i_range1 rfl hd.fr_range (ra_cons (r_var 2) ra_nil)) (g_name 13 hND) (s_cons (s_set 12 hND (d_op2 op_mulO rd_mulO (r_var 12) (r_var 2))) (s_fz 12 s_nil))) (s_cons (s_if (t_cmp (op_neG hu) rd_ne (DP.pr (d_callF (ok_rook_lots hd) hr (by decide) (a_cons (d_var 2) (a_cons (d_var 2) a_nil)))) (DP.pr (d_op2 op_sub rd_sub (DP.pr (d_op2 op_mulO rd_mulO (DP.pr d_int) (r_var 12))) (DP.pr (d_callF (ok_rook_peaces hd) hr (by decide) (a_cons (d_var 2) (a_cons (d_var 2) (a_cons (d_var 2) a_nil)))))))) (s_one (s_ret d_bl)) s_nil) (s_one (s_retE (e_lentF 1 (ok__law_hits_right hd) hr (by decide) (ea_cons (e_op2 op_addO rd_addO (e_p d_int) (e_lentF 1 (ok__law_pick hd) hr (by decide) (ea_cons (e_p d_int) ea_nil))) ea_nil))))))))))))))))))))))))))
theorem ok_law (hd : Hd w K mg) : Fok P w K mg base 7 (PySem.Str.ofString "law") [(PySem.Str.ofString "script")] (spB K 0 F_law) := by
  obtain ⟨fd, Fd⟩ := hd.fd_law
  exact ⟨⟨fd, fn_law hd Fd, Fd.bindsN fun _ _ _ _ _ _ us hl => match us, hl with | [_], _ => rfl⟩, hd.gl_law, Fd.kp⟩
end LW

namespace DL
open PySem PySem.Spec PyProof.Rows L2

/-! ## whole numbers, texts and tuples of them: == is equality -/
mutual
theorem eqv_plain : ∀ (x y : PyData), plainK x = true → plainK y = true → (PyData.eqv x y = true ↔ x = y)
  | .int i, .int j, _, _ => by simp only [PyData.eqv, beq_iff_eq, PyData.int.injEq]
  | .str i, .str j, _, _ => by simp only [PyData.eqv, beq_iff_eq, PyData.str.injEq]
  | .tuple l, .tuple m, h1, h2 => by
    simp only [PyData.eqv, PyData.tuple.injEq]
    exact eqvs_plain l m h1 h2
  | .int i, .str j, _, _ => by simp only [PyData.eqv]; simp
  | .int i, .tuple j, _, _ => by simp only [PyData.eqv]; simp
  | .str i, .int j, _, _ => by simp only [PyData.eqv]; simp
  | .str i, .tuple j, _, _ => by simp only [PyData.eqv]; simp
  | .tuple i, .str j, _, _ => by simp only [PyData.eqv]; simp
  | .tuple i, .int j, _, _ => by simp only [PyData.eqv]; simp
  | .none, _, h, _ => by cases h
  | .bool _, _, h, _ => by cases h
  | .list _, _, h, _ => by cases h
  | .dict _, _, h, _ => by cases h
  | .int _, .none, _, h => by cases h
  | .int _, .bool _, _, h => by cases h
  | .int _, .list _, _, h => by cases h
  | .int _, .dict _, _, h => by cases h
  | .str _, .none, _, h => by cases h
  | .str _, .bool _, _, h => by cases h
  | .str _, .list _, _, h => by cases h
  | .str _, .dict _, _, h => by cases h
  | .tuple _, .none, _, h => by cases h
  | .tuple _, .bool _, _, h => by cases h
  | .tuple _, .list _, _, h => by cases h
  | .tuple _, .dict _, _, h => by cases h
theorem eqvs_plain : ∀ (l m : List PyData), plainKs l = true → plainKs m = true → (PyData.eqvAll l m = true ↔ l = m)
  | [], [], _, _ => by simp only [PyData.eqvAll]
  | [], _ :: _, _, _ => by simp only [PyData.eqvAll]; simp
  | _ :: _, [], _, _ => by simp only [PyData.eqvAll]; simp
  | x :: xs, y :: ys, h1, h2 => by
    have h1 : plainK x = true ∧ plainKs xs = true := by simpa [plainKs] using h1
    have h2 : plainK y = true ∧ plainKs ys = true := by simpa [plainKs] using h2
    simp only [PyData.eqvAll, Bool.and_eq_true, List.cons.injEq]
    rw [eqv_plain x y h1.1 h2.1, eqvs_plain xs ys h1.2 h2.2]
end

/-! ## data that bears a Lean value -/
class Enc (α : Type) [DecidableEq α] where
  e : α → PyData
  inj : ∀ {a b : α}, e a = e b → a = b
  pl : ∀ a, plainK (e a) = true
  dep : Nat
  sh : ∀ a n, dep ≤ n → shal n (e a) = true
open Enc
section
variable {α β γ : Type} [DecidableEq α] [DecidableEq β] [DecidableEq γ] [Enc α] [Enc β] [Enc γ]
theorem eqv_e (a b : α) : PyData.eqv (e a) (e b) = decide (a = b) := by
  rw [Bool.eq_iff_iff, eqv_plain _ _ (pl a) (pl b), decide_eq_true_iff]
  exact ⟨inj, congrArg _⟩
instance : Enc Int := ⟨.int, fun h => by injection h, fun _ => rfl, 0, fun a n _ => by simp [shal]⟩
instance : Enc Nat := ⟨fun n => .int n, fun h => by injection h; omega, fun _ => rfl, 0, fun a n _ => by simp [shal]⟩
instance : Enc Str := ⟨.str, fun h => by injection h, fun _ => rfl, 0, fun a n _ => by simp [shal]⟩
instance : Enc (α × β) := ⟨fun p => .tuple [e p.1, e p.2], fun {a b} h => by
    injection h with h
    injection h with h1 h2
    injection h2 with h2 _
    exact Prod.ext (inj h1) (inj h2), fun p => by simp [plainK, plainKs, pl], max (dep α) (dep β) + 1, fun p n h => by
    cases n with
    | zero => omega
    | succ n => simp [shal, shalAll, sh p.1 n (by omega), sh p.2 n (by omega)]⟩
theorem map_e_inj : ∀ {l m : List α}, l.map e = m.map e → l = m
  | [], [], _ => rfl
  | [], _ :: _, h => by simp at h
  | _ :: _, [], h => by simp at h
  | a :: l, b :: m, h => by
    rw [List.map_cons, List.map_cons] at h
    injection h with h1 h2
    rw [inj h1, map_e_inj h2]
theorem plainKs_e : ∀ l : List α, plainKs (l.map e) = true
  | [] => rfl
  | a :: l => by rw [List.map_cons, plainKs, pl, plainKs_e l]; rfl
theorem shalAll_e (n : Nat) (h : dep α ≤ n) : ∀ l : List α, shalAll n (l.map e) = true
  | [] => by simp [shalAll]
  | a :: l => by rw [List.map_cons, shalAll, sh a n h, shalAll_e n h l]; rfl
/-- lists stand for tuples -/
instance : Enc (List α) := ⟨fun l => .tuple (l.map e), fun h => by injection h with h; exact map_e_inj h, fun l => plainKs_e l, dep α + 1, fun l n h => by
    cases n with
    | zero => omega
    | succ n => rw [shal]; exact shalAll_e n (by omega) l⟩
theorem any_e (l : List α) (a : α) : ((l.map e).any fun z => PyData.eqv z (e a)) = decide (a ∈ l) := by
  rw [List.any_map]
  have : (fun z : α => PyData.eqv (e z) (e a)) = fun z => decide (z = a) := by funext z; exact eqv_e z a
  show (l.any fun z => PyData.eqv (e z) (e a)) = _
  rw [this, Bool.eq_iff_iff, List.any_eq_true, decide_eq_true_iff]
  constructor
  · rintro ⟨x, m, h⟩; rw [← of_decide_eq_true h]; exact m
  · intro h; exact ⟨a, h, decide_eq_true rfl⟩
/-- an object that bears -/
abbrev ev (a : α) : Ob := .fr (e a)
abbrev sv (a : α) : Option Ob := some (.fr (e a))
abbrev lv (l : List α) : PyData := .list (l.map e)
/-! ### operations -/
theorem inA_tup (h : dep α ≤ 9) (a : α) (l : List α) : inA (ev a) (.fr (.tuple (l.map e))) = some (fB (decide (a ∈ l))) := by
  show (if shal 9 (e a) = true then some (fB ((l.map e).any fun z => PyData.eqv z (e a))) else none) = _
  rw [sh a 9 h, if_pos rfl, any_e]
theorem inA_lst (h : dep α ≤ 9) (a : α) (l : List α) : inA (ev a) (.fr (lv l)) = some (fB (decide (a ∈ l))) := by
  show (if shal 9 (e a) = true then some (fB ((l.map e).any fun z => PyData.eqv z (e a))) else none) = _
  rw [sh a 9 h, if_pos rfl, any_e]
theorem niA_tup (h : dep α ≤ 9) (a : α) (l : List α) : niA (ev a) (.fr (.tuple (l.map e))) = some (fB (!decide (a ∈ l))) := by
  show (if shal 9 (e a) = true then some (fB (!(l.map e).any fun z => PyData.eqv z (e a))) else none) = _
  rw [sh a 9 h, if_pos rfl, any_e]
theorem niA_lst (h : dep α ≤ 9) (a : α) (l : List α) : niA (ev a) (.fr (lv l)) = some (fB (!decide (a ∈ l))) := by
  show (if shal 9 (e a) = true then some (fB (!(l.map e).any fun z => PyData.eqv z (e a))) else none) = _
  rw [sh a 9 h, if_pos rfl, any_e]
theorem eqO_e (h : dep α ≤ 9) (a b : α) : eqO (ev a) (ev b) = some (fB (decide (a = b))) := by
  show (if (shal 9 (e a) || shal 9 (e b)) = true then some (fB (PyData.eqv (e a) (e b))) else none) = _
  rw [sh a 9 h, Bool.true_or, if_pos rfl, eqv_e]
theorem neO_e (h : dep α ≤ 9) (a b : α) : neO (ev a) (ev b) = some (fB (!decide (a = b))) := by
  show (if (shal 9 (e a) || shal 9 (e b)) = true then some (fB (!PyData.eqv (e a) (e b))) else none) = _
  rw [sh a 9 h, Bool.true_or, if_pos rfl, eqv_e]
theorem eqv_list (l m : List α) : PyData.eqv (lv l) (lv m) = decide (l = m) := by
  rw [Bool.eq_iff_iff, decide_eq_true_iff]
  show PyData.eqv (.list (l.map e)) (.list (m.map e)) = true ↔ _
  simp only [PyData.eqv]
  rw [eqvs_plain _ _ (plainKs_e l) (plainKs_e m)]
  exact ⟨map_e_inj, congrArg _⟩
theorem shal_lv (h : dep α ≤ 8) (l : List α) : shal 9 (lv l) = true := by
  show shal (8 + 1) (.list (l.map e)) = true
  rw [shal]; exact shalAll_e 8 h l
theorem neO_l (h : dep α ≤ 8) {l m : List α} {x y : Ob} (hx : asData x = some (lv l)) (hy : asData y = some (lv m)) : neO x y = some (fB (!decide (l = m))) := by
  unfold neO
  rw [hx, hy, Option.bind_some, Option.bind_some, shal_lv h, Bool.true_or, if_pos rfl, eqv_list]
theorem eqO_l (h : dep α ≤ 8) {l m : List α} {x y : Ob} (hx : asData x = some (lv l)) (hy : asData y = some (lv m)) : eqO x y = some (fB (decide (l = m))) := by
  unfold eqO
  rw [hx, hy, Option.bind_some, Option.bind_some, shal_lv h, Bool.true_or, if_pos rfl, eqv_list]
end
/-! ## reckoning with terms -/
section
variable {ρ : Env} {fa fb : F1} {g : Ob → Ob → Option Ob} {x y z : Ob}
theorem o2_eq (h1 : fa ρ = some x) (h2 : fb ρ = some y) (h3 : g x y = some z) : o2 g fa fb ρ = some z := by unfold o2; rw [h1, Option.bind_some, h2, Option.bind_some, h3]
theorem o1_eq {g : Ob → Option Ob} (h1 : fa ρ = some x) (h3 : g x = some z) : o1 g fa ρ = some z := by unfold o1; rw [h1, Option.bind_some, h3]
theorem oL1_eq {g : Ob → Option Ob} (h1 : fa ρ = some x) (h3 : g x = some z) : oL (g1 g) (lCons fa lNil) ρ = some z := by
  unfold oL lCons lNil
  rw [h1]
  exact h3
theorem oL2_eq {g : Ob → Ob → Option Ob} (h1 : fa ρ = some x) (h2 : fb ρ = some y) (h3 : g x y = some z) : oL (g2 g) (lCons fa (lCons fb lNil)) ρ = some z := by
  unfold oL lCons lNil
  rw [h1, h2]
  exact h3
theorem call_eq {n : Nat} {F : Fn} {fd : FD} {ds : List PyData} (h1 : fd ρ = some ds) (h2 : ds.length = n) (h3 : F ds = some z) : dCall n F fd ρ = some z := by
  unfold dCall
  rw [h1, Option.bind_some, if_pos (by rw [h2]; exact Nat.beq_refl n), h3]
theorem bO_eq {b : Bool} (h : fa ρ = some (fB b)) : bO fa ρ = some b := by unfold bO; rw [h]; rfl
theorem bNot_eq {f : FB} {b : Bool} (h : f ρ = some b) : bNot f ρ = some (!b) := by unfold bNot; rw [h]; rfl
theorem oB_eq {f : FB} {b : Bool} (h : f ρ = some b) : oB f ρ = some (fB b) := by unfold oB; rw [h]; rfl
theorem bAnd_eq {f g : FB} {b c : Bool} (h : f ρ = some b) (h2 : b = true → g ρ = some c) : bAnd f g ρ = some (b && c) := by
  unfold bAnd; rw [h, Option.bind_some]
  cases b with
  | true => rw [if_pos rfl, h2 rfl]; rfl
  | false => rfl
theorem bOr_eq {f g : FB} {b c : Bool} (h : f ρ = some b) (h2 : b = false → g ρ = some c) : bOr f g ρ = some (b || c) := by
  unfold bOr; rw [h, Option.bind_some]
  cases b with
  | false => rw [if_neg Bool.false_ne_true, h2 rfl]; rfl
  | true => rfl
theorem oAnd_eq {b c : Bool} (h : fa ρ = some (fB b)) (h2 : b = true → fb ρ = some (fB c)) : oAnd fa fb ρ = some (fB (b && c)) := by
  unfold oAnd; rw [h]
  cases b with
  | true => exact h2 rfl
  | false => rfl
theorem oOr_eq {b c : Bool} (h : fa ρ = some (fB b)) (h2 : b = false → fb ρ = some (fB c)) : oOr fa fb ρ = some (fB (b || c)) := by
  unfold oOr; rw [h]
  cases b with
  | false => exact h2 rfl
  | true => rfl
theorem oIf_eq {c : FB} {b : Bool} (h : c ρ = some b) (h1 : b = true → fa ρ = some z) (h2 : b = false → fb ρ = some z) : oIf c fa fb ρ = some z := by
  unfold oIf; rw [h]
  cases b with
  | true => exact h1 rfl
  | false => exact h2 rfl
theorem chain_eq {g g' : Ob → Ob → Option Ob} {fc : F1} {w : Ob} {b c : Bool} (h1 : fa ρ = some x) (h2 : fb ρ = some y) (h3 : fc ρ = some w) (h4 : g x y = some (fB b)) (h5 : g' y w = some (fB c)) : oChain g g' fa fb fc ρ = some (fB (b && c)) := by
  unfold oChain; rw [h1, Option.bind_some, h2, Option.bind_some, h4]
  cases b with
  | true => show ((fc ρ).bind fun w => g' y w) = _; rw [h3, Option.bind_some, h5]; rfl
  | false => rfl
theorem aCons_eq {f : F1} {r : FD} {o : Ob} {d : PyData} {ds : List PyData} (h1 : f ρ = some o) (h2 : fz o = some d) (h3 : r ρ = some ds) : aCons f r ρ = some (d :: ds) := by unfold aCons; rw [h1, Option.bind_some, h2, Option.bind_some, h3]; rfl
theorem aNil_eq : aNil ρ = some [] := rfl
theorem aStar_eq {f : F1} {r : FD} {o : Ob} {l ds : List PyData} (h1 : f ρ = some o) (h2 : asSeq o = some l) (h3 : r ρ = some ds) : aStar f r ρ = some (l ++ ds) := by unfold aStar; rw [h1, Option.bind_some, h2, Option.bind_some, h3]; rfl
theorem short_le {l : List PyData} (h : l.length ≤ 16777216) : short l = true := Nat.ble_eq.mpr h
theorem dTup_eq {f : FD} {l : List PyData} (h : f ρ = some l) (hs : l.length ≤ 16777216) : dTup f ρ = some (.fr (.tuple l)) := by unfold dTup; rw [h, Option.bind_some, if_pos (short_le hs)]
theorem dLst_eq {f : FD} {l : List PyData} (h : f ρ = some l) (hs : l.length ≤ 16777216) : dLst f ρ = some (.lst l) := by unfold dLst; rw [h, Option.bind_some, if_pos (short_le hs)]
theorem lCons_eq {f : F1} {r : FL} {o : Ob} {os : List Ob} (h1 : f ρ = some o) (h2 : r ρ = some os) : lCons f r ρ = some (o :: os) := by unfold lCons; rw [h1, Option.bind_some, h2]; rfl
theorem fPar_eq {is : List Nat} {fl : FL} {os : List Ob} {ρ' : Env} (h1 : fl ρ = some os) (h2 : setAll is os ρ = some ρ') : fPar is fl ρ = some (.nx ρ') := by unfold fPar; rw [h1, Option.bind_some, h2]; rfl
theorem repL_eq {d : PyData} {n : Nat} (hn : n ≤ 1000000) : repL (.lst [d]) (.fr (.int n)) = some (.lst (List.replicate n d)) := by
  have e : ∀ i : Int, repL (.lst [d]) (.fr (.int i)) = if decide (-(2 ^ 63) ≤ i) && (decide (i < 2 ^ 63) && Nat.ble ([d].length * i.toNat) 16777216) then some (.lst (List.replicate i.toNat [d]).flatten) else none := fun i => rfl
  have h1 : decide (-(2 ^ 63) ≤ (n : Int)) = true := decide_eq_true (by omega)
  have h2 : decide ((n : Int) < 2 ^ 63) = true := decide_eq_true (by omega)
  have h3 : Nat.ble ([d].length * (n : Int).toNat) 16777216 = true := Nat.ble_eq.mpr (by simp; omega)
  rw [e, h1, h2, h3]
  simp
theorem rep_eq {d : PyData} {n : Nat} (hn : n ≤ 1000000) : mulO (.lst [d]) (.fr (.int n)) = some (.lst (List.replicate n d)) := by
  have h1 : mulI (.lst [d]) (.fr (.int n)) = none := rfl
  unfold mulO
  rw [h1]
  exact repL_eq hn
theorem iSeq_eq {f : F1} {o : Ob} {d : PyData} {l : List PyData} (h : f ρ = some o) (h2 : fz o = some d) (h3 : dSeq d = some l) : iSeq f ρ = some l := by unfold iSeq; rw [h, Option.bind_some, h2, Option.bind_some, h3]
/-! ## comprehensions -/
theorem lcL_eq {α : Type} {ga : FT} {tt : FB} {te : F1} (enc : α → PyData) (c : α → Bool) (out : α → PyData) : ∀ (xs : List α), (∀ x ∈ xs, ∃ ρ1, ga (enc x) ρ = some ρ1 ∧ tt ρ1 = some (c x) ∧ (c x = true → ∃ o, te ρ1 = some o ∧ fz o = some (out x))) → lcL ga tt te (xs.map enc) ρ = some ((xs.filter c).map out)
  | [], _ => rfl
  | x :: xs, h => by
    obtain ⟨ρ1, e1, e2, e3⟩ := h x List.mem_cons_self
    have ih := lcL_eq enc c out xs fun y m => h y (List.mem_cons_of_mem _ m)
    rw [List.map_cons, lcL, e1, Option.bind_some, e2, Option.bind_some]
    cases hc : c x with
    | true =>
      obtain ⟨o, e4, e5⟩ := e3 hc
      rw [if_pos rfl, e4, Option.bind_some, e5, Option.bind_some, ih, Option.bind_some, List.filter_cons_of_pos (by rw [hc]), List.map_cons]
    | false => rw [if_neg Bool.false_ne_true, ih, List.filter_cons_of_neg (by rw [hc]; decide)]
theorem oLc_eq {α : Type} {n : Nat} {vs : List Nat} {fi : FD} {ga : FT} {tt : FB} {te : F1} (xs : List α) (enc : α → PyData) (c : α → Bool) (out : α → PyData) (hn : ρ.length = n) (hi : fi ρ = some (xs.map enc)) (hs : xs.length ≤ 16777216)
    (h : ∀ x ∈ xs, ∃ ρ1, ga (enc x) (wipeE ρ vs) = some ρ1 ∧ tt ρ1 = some (c x) ∧ (c x = true → ∃ o, te ρ1 = some o ∧ fz o = some (out x))) : oLc n vs fi ga tt te ρ = some (.lst ((xs.filter c).map out)) := by
  unfold oLc
  rw [if_pos (by rw [hn]; exact Nat.beq_refl n), hi, Option.bind_some, if_pos (short_le (by rw [List.length_map]; exact hs)), lcL_eq enc c out xs h, Option.bind_some]
/-- without a test -/
theorem oLm_eq {α : Type} {n : Nat} {vs : List Nat} {fi : FD} {ga : FT} {te : F1} (xs : List α) (enc : α → PyData) (out : α → PyData) (hn : ρ.length = n) (hi : fi ρ = some (xs.map enc)) (hs : xs.length ≤ 16777216)
    (h : ∀ x ∈ xs, ∃ ρ1, ga (enc x) (wipeE ρ vs) = some ρ1 ∧ ∃ o, te ρ1 = some o ∧ fz o = some (out x)) : oLc n vs fi ga bYes te ρ = some (.lst (xs.map out)) := by
  rw [oLc_eq xs enc (fun _ => true) out hn hi hs fun x m => ?_, List.filter_eq_self.mpr fun _ _ => rfl]
  obtain ⟨ρ1, h1, h2⟩ := h x m
  exact ⟨ρ1, h1, rfl, fun _ => h2⟩
theorem lc2L_eq {α β : Type} {ga ga1 : FT} {tt tt1 : FB} {fi1 : FD} {vs1 : List Nat} {te : F1} (enc : α → PyData) (c : α → Bool) (ys : α → List β) (enc1 : β → PyData) (c1 : α → β → Bool) (out : α → β → PyData) : ∀ (xs : List α),
    (∀ x ∈ xs, ∃ ρ1, ga (enc x) ρ = some ρ1 ∧ tt ρ1 = some (c x) ∧ (c x = true → fi1 ρ1 = some ((ys x).map enc1) ∧ ∀ y ∈ ys x, ∃ ρ2, ga1 (enc1 y) (wipeE ρ1 vs1) = some ρ2 ∧ tt1 ρ2 = some (c1 x y) ∧ (c1 x y = true → ∃ o, te ρ2 = some o ∧ fz o = some (out x y)))) →
    lc2L ga tt fi1 vs1 ga1 tt1 te (xs.map enc) ρ = some ((xs.filter c).flatMap fun x => ((ys x).filter (c1 x)).map (out x))
  | [], _ => rfl
  | x :: xs, h => by
    obtain ⟨ρ1, e1, e2, e3⟩ := h x List.mem_cons_self
    have ih := lc2L_eq enc c ys enc1 c1 out xs fun y m => h y (List.mem_cons_of_mem _ m)
    rw [List.map_cons, lc2L, e1, Option.bind_some, e2, Option.bind_some]
    cases hc : c x with
    | true =>
      obtain ⟨e4, e6⟩ := e3 hc
      rw [if_pos rfl, e4, Option.bind_some, lcL_eq enc1 (c1 x) (out x) (ys x) e6, ih, List.filter_cons_of_pos (by rw [hc])]
      rfl
    | false => rw [if_neg Bool.false_ne_true, ih, List.filter_cons_of_neg (by rw [hc]; decide)]
theorem oLc2_eq {α β : Type} {n : Nat} {vs vs1 : List Nat} {fi fi1 : FD} {ga ga1 : FT} {tt tt1 : FB} {te : F1} (xs : List α) (enc : α → PyData) (c : α → Bool) (ys : α → List β) (enc1 : β → PyData) (c1 : α → β → Bool) (out : α → β → PyData) (hn : ρ.length = n) (hi : fi ρ = some (xs.map enc))
    (h : ∀ x ∈ xs, ∃ ρ1, ga (enc x) (wipeE ρ vs) = some ρ1 ∧ tt ρ1 = some (c x) ∧ (c x = true → fi1 ρ1 = some ((ys x).map enc1) ∧ ∀ y ∈ ys x, ∃ ρ2, ga1 (enc1 y) (wipeE ρ1 vs1) = some ρ2 ∧ tt1 ρ2 = some (c1 x y) ∧ (c1 x y = true → ∃ o, te ρ2 = some o ∧ fz o = some (out x y))))
    (hs : ((xs.filter c).flatMap fun x => ((ys x).filter (c1 x)).map (out x)).length ≤ 16777216) :
    oLc2 n vs vs1 fi ga tt fi1 ga1 tt1 te ρ = some (.lst ((xs.filter c).flatMap fun x => ((ys x).filter (c1 x)).map (out x))) := by
  unfold oLc2
  rw [if_pos (by rw [hn]; exact Nat.beq_refl n), hi, Option.bind_some, lc2L_eq enc c ys enc1 c1 out xs h, Option.bind_some, if_pos (short_le hs)]
/-! ## loops -/
theorem ws_mono {f : FS} {Q Q' : Out → Prop} (h : WS f ρ Q) (k : ∀ r, Q r → Q' r) : WS f ρ Q' := let ⟨r, e, q⟩ := h; ⟨r, e, k r q⟩
/-- what a turn of a loop must end with: on by I, out by N, back by Q -/
def TurnK (I N : Env → Prop) (Q : Out → Prop) : Out → Prop
  | .nx ρ => I ρ
  | .ct ρ => I ρ
  | .bk ρ => N ρ
  | .rt o ρ => Q (.rt o ρ)
def LoopK (N : Env → Prop) (Q : Out → Prop) : Out → Prop
  | .nx ρ => N ρ
  | .rt o ρ => Q (.rt o ρ)
  | _ => False
theorem forL_ws {α : Type} {ga : FT} {fb : FS} {N : Env → Prop} {Q : Out → Prop} (enc : α → PyData) (I : List α → List α → Env → Prop)
    (step : ∀ done x todo ρ, I done (x :: todo) ρ → ∃ ρ1, ga (enc x) ρ = some ρ1 ∧ WS fb ρ1 (TurnK (I (done ++ [x]) todo) N Q)) (fin : ∀ done ρ, I done [] ρ → N ρ) :
    ∀ (todo done : List α) (ρ : Env), I done todo ρ → ∃ r, forL ga fb (todo.map enc) ρ = some r ∧ LoopK N Q r
  | [], done, ρ, h => ⟨_, rfl, fin done ρ h⟩
  | x :: todo, done, ρ, h => by
    obtain ⟨ρ1, e1, r, e2, q⟩ := step done x todo ρ h
    have go : forL ga fb ((x :: todo).map enc) ρ = (fb ρ1).bind fun r => match r with
        | .nx ρ2 => forL ga fb (todo.map enc) ρ2
        | .ct ρ2 => forL ga fb (todo.map enc) ρ2
        | .bk ρ2 => some (.nx ρ2)
        | .rt o ρ2 => some (.rt o ρ2) := by
      show ((ga (enc x) ρ).bind fun ρ1 => (fb ρ1).bind _) = _
      rw [e1]; rfl
    rw [go, e2]
    cases r with
    | nx ρ2 => exact forL_ws enc I step fin todo (done ++ [x]) ρ2 q
    | ct ρ2 => exact forL_ws enc I step fin todo (done ++ [x]) ρ2 q
    | bk ρ2 => exact ⟨_, rfl, q⟩
    | rt o ρ2 => exact ⟨_, rfl, q⟩
theorem loop_end {f g : FS} {Q : Out → Prop} {r : Out} (e : f ρ = some r) (q : LoopK (fun ρ => WS g ρ Q) Q r) : WS (fSeq f g) ρ Q := by
  cases r with
  | nx ρ2 => exact ws_nx e q
  | ct ρ2 => exact q.elim
  | bk ρ2 => exact q.elim
  | rt o ρ2 => exact ⟨.rt o ρ2, by unfold fSeq; rw [e]; rfl, q⟩
/-- a loop in a body -/
theorem ws_for {α : Type} {fi : FD} {ga : FT} {fb g : FS} {Q : Out → Prop} (xs : List α) (enc : α → PyData) (I : List α → List α → Env → Prop) (hi : fi ρ = some (xs.map enc)) (h0 : I [] xs ρ)
    (step : ∀ done x todo ρ, I done (x :: todo) ρ → done ++ x :: todo = xs → ∃ ρ1, ga (enc x) ρ = some ρ1 ∧ WS fb ρ1 (TurnK (I (done ++ [x]) todo) (fun ρ => WS g ρ Q) Q)) (fin : ∀ ρ, I xs [] ρ → WS g ρ Q) : WS (fSeq (fFor fi ga fb) g) ρ Q := by
  obtain ⟨r, e, q⟩ := forL_ws (ga := ga) (fb := fb) (N := fun ρ => WS g ρ Q) (Q := Q) enc (fun done todo ρ => I done todo ρ ∧ done ++ todo = xs) (fun done x todo ρ h => by
    obtain ⟨ρ1, e1, w⟩ := step done x todo ρ h.1 h.2
    refine ⟨ρ1, e1, ws_mono w fun r q => ?_⟩
    cases r with
    | nx ρ2 => exact ⟨q, by simpa using h.2⟩
    | ct ρ2 => exact ⟨q, by simpa using h.2⟩
    | bk ρ2 => exact q
    | rt o ρ2 => exact q) (fun done ρ h => by
      have : done = xs := by simpa using h.2
      subst this
      exact fin ρ h.1) xs [] ρ ⟨h0, rfl⟩
  exact loop_end (by unfold fFor; rw [hi, Option.bind_some, e]) q
/-- a loop that ends a body -/
theorem ws_for1 {α : Type} {fi : FD} {ga : FT} {fb : FS} {Q : Out → Prop} (xs : List α) (enc : α → PyData) (I : List α → List α → Env → Prop) (hi : fi ρ = some (xs.map enc)) (h0 : I [] xs ρ)
    (step : ∀ done x todo ρ, I done (x :: todo) ρ → done ++ x :: todo = xs → ∃ ρ1, ga (enc x) ρ = some ρ1 ∧ WS fb ρ1 (TurnK (I (done ++ [x]) todo) (fun ρ => Q (.nx ρ)) Q)) (fin : ∀ ρ, I xs [] ρ → Q (.nx ρ)) : WS (fFor fi ga fb) ρ Q := by
  obtain ⟨r, e, q⟩ := forL_ws (ga := ga) (fb := fb) (N := fun ρ => Q (.nx ρ)) (Q := Q) enc (fun done todo ρ => I done todo ρ ∧ done ++ todo = xs) (fun done x todo ρ h => by
    obtain ⟨ρ1, e1, w⟩ := step done x todo ρ h.1 h.2
    refine ⟨ρ1, e1, ws_mono w fun r q => ?_⟩
    cases r with
    | nx ρ2 => exact ⟨q, by simpa using h.2⟩
    | ct ρ2 => exact ⟨q, by simpa using h.2⟩
    | bk ρ2 => exact q
    | rt o ρ2 => exact q) (fun done ρ h => by
      have : done = xs := by simpa using h.2
      subst this
      exact fin ρ h.1) xs [] ρ ⟨h0, rfl⟩
  refine ⟨r, by unfold fFor; rw [hi, Option.bind_some, e], ?_⟩
  cases r with
  | nx ρ2 => exact q
  | ct ρ2 => exact q.elim
  | bk ρ2 => exact q.elim
  | rt o ρ2 => exact q
theorem whL_ws {c : FB} {fb : FS} {N : Env → Prop} {Q : Out → Prop} (I : Nat → Env → Prop)
    (step : ∀ k ρ, I k ρ → ∃ b, c ρ = some b ∧ (b = true → WS fb ρ (TurnK (fun ρ => ∃ j, j < k ∧ I j ρ) N Q)) ∧ (b = false → N ρ)) :
    ∀ (fuel k : Nat) (ρ : Env), I k ρ → k < fuel → ∃ r, whL c fb fuel ρ = some r ∧ LoopK N Q r
  | 0, k, ρ, _, hf => by omega
  | fuel + 1, k, ρ, h, hf => by
    obtain ⟨b, e, ht, hn⟩ := step k ρ h
    have go : whL c fb (fuel + 1) ρ = if b = true then (fb ρ).bind fun r => match r with
        | .nx ρ2 => whL c fb fuel ρ2
        | .ct ρ2 => whL c fb fuel ρ2
        | .bk ρ2 => some (.nx ρ2)
        | .rt o ρ2 => some (.rt o ρ2)
        else some (.nx ρ) := by
      show ((c ρ).bind _) = _
      rw [e]; rfl
    rw [go]
    cases b with
    | false => exact ⟨_, rfl, hn rfl⟩
    | true =>
      obtain ⟨r, e2, q⟩ := ht rfl
      rw [if_pos rfl, e2]
      cases r with
      | nx ρ2 =>
        obtain ⟨j, hj, q⟩ := q
        exact whL_ws I step fuel j ρ2 q (by omega)
      | ct ρ2 =>
        obtain ⟨j, hj, q⟩ := q
        exact whL_ws I step fuel j ρ2 q (by omega)
      | bk ρ2 => exact ⟨_, rfl, q⟩
      | rt o ρ2 => exact ⟨_, rfl, q⟩
theorem ws_wh {n : Env → Nat} {c : FB} {fb g : FS} {Q : Out → Prop} (k : Nat) (I : Nat → Env → Prop) (h0 : I k ρ) (hk : k < n ρ)
    (step : ∀ k ρ, I k ρ → ∃ b, c ρ = some b ∧ (b = true → WS fb ρ (TurnK (fun ρ => ∃ j, j < k ∧ I j ρ) (fun ρ => WS g ρ Q) Q)) ∧ (b = false → WS g ρ Q)) : WS (fSeq (fWh n c fb) g) ρ Q := by
  obtain ⟨r, e, q⟩ := whL_ws (N := fun ρ => WS g ρ Q) (Q := Q) I step (n ρ) k ρ h0 hk
  exact loop_end (show fWh n c fb ρ = some r from e) q
/-! ## statements -/
theorem ws_asg {i : Nat} {f : F1} {g : FS} {Q : Out → Prop} {o : Ob} (h : f ρ = some o) (k : WS g (ρ.set i (some o)) Q) : WS (fSeq (fSet i f) g) ρ Q := ws_nx (by unfold fSet; rw [h]; rfl) k
theorem ws_asg1 {i : Nat} {f : F1} {Q : Out → Prop} {o : Ob} (h : f ρ = some o) (k : Q (.nx (ρ.set i (some o)))) : WS (fSet i f) ρ Q := ⟨_, by unfold fSet; rw [h]; rfl, k⟩
theorem ws_1 {f : FS} {Q : Out → Prop} {r : Out} (h : f ρ = some r) (k : Q r) : WS f ρ Q := ⟨_, h, k⟩
theorem ws_if {c : FB} {b : Bool} {f g : FS} {Q : Out → Prop} (h : c ρ = some b) (h1 : b = true → WS f ρ Q) (h2 : b = false → WS g ρ Q) : WS (fIf c f g) ρ Q := by
  cases b with
  | true => obtain ⟨r, e, q⟩ := h1 rfl; exact ⟨r, by unfold fIf; rw [h]; exact e, q⟩
  | false => obtain ⟨r, e, q⟩ := h2 rfl; exact ⟨r, by unfold fIf; rw [h]; exact e, q⟩
/-- an if that goes on or returns -/
theorem ws_ifS {c : FB} {b : Bool} {f g k : FS} {Q : Out → Prop} (h : c ρ = some b) (h1 : b = true → WS (fSeq f k) ρ Q) (h2 : b = false → WS (fSeq g k) ρ Q) : WS (fSeq (fIf c f g) k) ρ Q := by
  cases b with
  | true =>
    obtain ⟨r, e, q⟩ := h1 rfl
    refine ⟨r, ?_, q⟩
    rw [← e]
    unfold fSeq fIf; rw [h]; rfl
  | false =>
    obtain ⟨r, e, q⟩ := h2 rfl
    refine ⟨r, ?_, q⟩
    rw [← e]
    unfold fSeq fIf; rw [h]; rfl
theorem ws_retS {f : F1} {k : FS} {Q : Out → Prop} {o : Ob} (h : f ρ = some o) (q : Q (.rt o ρ)) : WS (fSeq (fRet f) k) ρ Q := ⟨_, fSeq_rt (by unfold fRet; rw [h]; rfl), q⟩
theorem ws_skip {k : FS} {Q : Out → Prop} (q : WS k ρ Q) : WS (fSeq fNx k) ρ Q := ws_nx rfl q
theorem ws_rt {f : F1} {Q : Out → Prop} {o : Ob} (h : f ρ = some o) (q : Q (.rt o ρ)) : WS (fRet f) ρ Q := ⟨_, by unfold fRet; rw [h]; rfl, q⟩
/-- a def ends with o -/
abbrev RetK (o : Ob) : Out → Prop := fun r => ∃ t, r = .rt o t
theorem fn_ws {m : Nat} {b : FS} {ds : List PyData} {o : Ob} (h : WS b (startE m ds) (RetK o)) : fnOf m b ds = some o := by
  obtain ⟨r, e, t, rfl⟩ := h
  unfold fnOf
  rw [e]; rfl
theorem ws_ret1 {f : F1} {o : Ob} (h : f ρ = some o) : WS (fRet f) ρ (RetK o) := ws_rt h ⟨_, rfl⟩
end
end DL

namespace DL
open PySem PySem.Spec PyProof.Rows L2
open Enc

/-! ## sorting, told by what is in it -/
section
variable {α : Type} [DecidableEq α] [Enc α]
/-- a less than b -/
def lte (a b : α) : Prop := cmpX (e a) (e b) = .lt
theorem lte_int (a b : Int) : lte a b ↔ a < b := by
  show (if a < b then Ordering.lt else if a = b then .eq else .gt) = .lt ↔ _
  by_cases h : a < b
  · rw [if_pos h]; simp [h]
  · rw [if_neg h]; by_cases h2 : a = b <;> simp [h2, h] <;> omega
theorem lte_nat (a b : Nat) : lte a b ↔ a < b := by
  have := lte_int (a : Int) (b : Int)
  show lte (a : Int) (b : Int) ↔ _
  rw [this]; omega
theorem cmp_e_eq (a b : Int) : cmpX (.int a) (.int b) = if a < b then .lt else if a = b then .eq else .gt := by rw [cmpX]
theorem sorted_eq {l : List PyData} {m : List PyData} (h : SortOk l) (nd : l.Nodup) (hm : m.Pairwise fun a b => cmpX a b = .lt) (mem : ∀ x, x ∈ l ↔ x ∈ m) : isort l = m := by
  have s1 := isort_sorted h (l := l) fun y hy => hy
  have s2 : m.Pairwise fun a b => leX a b = true := hm.imp fun {a b} q => by unfold leX; rw [q]
  have ndm : m.Nodup := by
    refine hm.imp_of_mem fun {a b} ha hb q e => ?_
    subst e
    have c := cmp_ok a a (h.pl a ((mem a).mpr ha)) (h.pl a ((mem a).mpr ha)) (h.al a ((mem a).mpr ha) a ((mem a).mpr ha))
    have q1 := c.eqv
    rw [q, (eqv_plain a a (h.pl a ((mem a).mpr ha)) (h.pl a ((mem a).mpr ha))).mpr rfl] at q1
    cases q1
  have p : (isort l).Perm m := (isort_perm l).trans ((List.perm_ext_iff_of_nodup nd ndm).mpr mem)
  exact List.Perm.eq_of_pairwise (le := fun a b => leX a b = true) (fun a b ha hb h1 h2 => h.anti ((isort_perm l).mem_iff.mp ha) ((mem b).mpr hb) h1 h2) s1 s2 p
theorem nodup_e {l : List α} (h : l.Nodup) : (l.map e).Nodup := List.Pairwise.map e (fun a b q q2 => q (inj q2)) h
/-- l sorted is m -/
theorem isort_e {l m : List α} (h : okSort (l.map e) = true) (nd : l.Nodup) (hm : m.Pairwise lte) (mem : ∀ x, x ∈ l ↔ x ∈ m) : isort (l.map e) = m.map e := by
  refine sorted_eq (okSort_ok h) (nodup_e nd) (List.Pairwise.map e (fun a b q => q) hm) fun x => ?_
  rw [List.mem_map, List.mem_map]
  exact ⟨fun ⟨a, h1, h2⟩ => ⟨a, (mem a).mp h1, h2⟩, fun ⟨a, h1, h2⟩ => ⟨a, (mem a).mpr h1, h2⟩⟩
/-- what can be sorted: numbers -/
theorem okSort_n {l : List PyData} (h : ∀ x ∈ l, hasN 0 x = true) : okSort l = true := by
  unfold okSort
  rw [List.all_eq_true.mpr h]; rfl
/-- tuples of numbers, none of them empty -/
theorem okSort_t {l : List PyData} (h : ∀ x ∈ l, neTup x = true ∧ hasN 1 x = true) : okSort l = true := by
  unfold okSort
  rw [List.all_eq_true.mpr fun x m => (h x m).1, List.all_eq_true.mpr fun x m => (h x m).2]
  simp
theorem okSort_int (l : List Int) : okSort (l.map e) = true := okSort_n fun x m => by
  obtain ⟨a, _, rfl⟩ := List.mem_map.mp m
  rfl
theorem okSort_nat (l : List Nat) : okSort (l.map e) = true := okSort_n fun x m => by
  obtain ⟨a, _, rfl⟩ := List.mem_map.mp m
  rfl
theorem okSort_ii (l : List (Int × Int)) : okSort (l.map e) = true := okSort_t fun x m => by
  obtain ⟨a, _, rfl⟩ := List.mem_map.mp m
  exact ⟨rfl, rfl⟩
theorem okSort_nn (l : List (Nat × Nat)) : okSort (l.map e) = true := okSort_t fun x m => by
  obtain ⟨a, _, rfl⟩ := List.mem_map.mp m
  exact ⟨rfl, rfl⟩
theorem lte_ii (a b : Int × Int) : lte a b ↔ a.1 < b.1 ∨ (a.1 = b.1 ∧ a.2 < b.2) := by
  show cmpX (.tuple [.int a.1, .int a.2]) (.tuple [.int b.1, .int b.2]) = .lt ↔ _
  rw [cmpX, cmpXs, cmpX]
  by_cases h : a.1 < b.1
  · rw [if_pos h]; simp [h]
  · rw [if_neg h]
    by_cases h2 : a.1 = b.1
    · rw [if_pos h2]
      show cmpXs [.int a.2] [.int b.2] = .lt ↔ _
      rw [cmpXs, cmpX]
      by_cases h3 : a.2 < b.2
      · rw [if_pos h3]; simp [h2, h3]
      · rw [if_neg h3]
        by_cases h4 : a.2 = b.2
        · rw [if_pos h4]
          show cmpXs [] [] = .lt ↔ _
          rw [cmpXs]; simp; omega
        · rw [if_neg h4]; simp; omega
    · rw [if_neg h2]; simp; omega
theorem lte_nn (a b : Nat × Nat) : lte a b ↔ a.1 < b.1 ∨ (a.1 = b.1 ∧ a.2 < b.2) := by
  have := lte_ii ((a.1 : Int), (a.2 : Int)) ((b.1 : Int), (b.2 : Int))
  refine Iff.trans (show lte a b ↔ lte ((a.1 : Int), (a.2 : Int)) ((b.1 : Int), (b.2 : Int)) from Iff.rfl) (this.trans ?_)
  simp only
  omega
end
/-! ## ranges -/
theorem rangeD_eq : ∀ (n : Nat) (i : Int), rangeD i n = (List.range n).map fun j => PyData.int (i + (j : Nat))
  | 0, _ => rfl
  | n + 1, i => by
    rw [rangeD, rangeD_eq n, List.range_succ_eq_map, List.map_cons, List.map_map]
    congr 1
    · simp
    · refine List.map_congr_left fun j _ => ?_
      show PyData.int (i + 1 + (j : Nat)) = PyData.int (i + ((j + 1 : Nat) : Nat))
      congr 1; omega
theorem sm62_of {i : Int} (h1 : -1000000000000 ≤ i) (h2 : i ≤ 1000000000000) : sm62 i = true := by
  unfold sm62
  rw [decide_eq_true (by omega), decide_eq_true (by omega)]; rfl
theorem rng1_i {ρ : Env} {f : F1} {i : Int} (h : f ρ = some (.fr (.int i))) : DL.iRng1 (lCons f lNil) ρ = if sm62 i = true then some (rangeD 0 i.toNat) else none := by
  unfold DL.iRng1 lCons lNil
  rw [h]; rfl
theorem rng1_eq {ρ : Env} {f : F1} {n : Nat} (h : f ρ = some (.fr (.int n))) (hn : n ≤ 1000000000000) : DL.iRng1 (lCons f lNil) ρ = some ((List.range n).map e) := by
  have h3 : sm62 (n : Int) = true := sm62_of (by omega) (by omega)
  rw [rng1_i h, h3, if_pos rfl, rangeD_eq, Int.toNat_natCast]
  refine congrArg some (List.map_congr_left fun j _ => ?_)
  show PyData.int (0 + (j : Nat)) = PyData.int j
  rw [Int.zero_add]
theorem rng2_eq {ρ : Env} {f g : F1} {i j : Int} (h : f ρ = some (.fr (.int i))) (h2 : g ρ = some (.fr (.int j))) (hi : -1000000000000 ≤ i ∧ i ≤ 1000000000000) (hj : -1000000000000 ≤ j ∧ j ≤ 1000000000000) : DL.iRng2 (lCons f (lCons g lNil)) ρ = some (((List.range (j - i).toNat).map fun k => i + (k : Nat)).map e) := by
  have : DL.iRng2 (lCons f (lCons g lNil)) ρ = if (sm62 i && sm62 j) = true then some (rangeD i (j - i).toNat) else none := by
    unfold DL.iRng2 lCons lNil
    rw [h, h2]; rfl
  rw [this, if_pos (by rw [sm62_of hi.1 hi.2, sm62_of hj.1 hj.2]; rfl), rangeD_eq, List.map_map]
  rfl
theorem rng2_nat {ρ : Env} {f g : F1} {i j : Nat} (h : f ρ = some (.fr (.int i))) (h2 : g ρ = some (.fr (.int j))) (hi : i ≤ 1000000000000) (hj : j ≤ 1000000000000) : DL.iRng2 (lCons f (lCons g lNil)) ρ = some ((List.range' i (j - i)).map e) := by
  rw [rng2_eq h h2 (by omega) (by omega), List.map_map, List.range'_eq_map_range, List.map_map]
  have : ((j : Int) - i).toNat = j - i := by omega
  rw [this]
  congr 1
/-- the call of sorted -/
theorem sortA_lst {l m : List PyData} (h : okSort l = true) (hs : l.length ≤ 16777216) (e : isort l = m) : sortA (.lst l) = some (.lst m) := by
  subst e
  show (if (okSort l && short l) = true then some (Ob.lst (isort l)) else none) = _
  rw [h, short_le hs]; rfl
theorem sortA_fr {l m : List PyData} (h : okSort l = true) (hs : l.length ≤ 16777216) (e : isort l = m) : sortA (.fr (.list l)) = some (.lst m) := by
  subst e
  show (if (okSort l && short l) = true then some (Ob.lst (isort l)) else none) = _
  rw [h, short_le hs]; rfl
end DL

namespace DL
open PySem PySem.Spec PyProof.Rows L2
open Enc

theorem nd_len {α : Type} [DecidableEq α] : ∀ {l m : List α}, l.Nodup → (∀ x ∈ l, x ∈ m) → l.length ≤ m.length
  | [], _, _, _ => Nat.zero_le _
  | a :: l, m, nd, s => by
    have h := List.nodup_cons.mp nd
    have ha := s a List.mem_cons_self
    have ih := nd_len (l := l) (m := m.erase a) h.2 fun x hx => (List.mem_erase_of_ne fun e => h.1 (by rw [← e]; exact hx)).mpr (s x (List.mem_cons_of_mem _ hx))
    rw [List.length_erase_of_mem ha] at ih
    have := List.length_pos_of_mem ha
    rw [List.length_cons]
    omega
/-! ## dicts as sets of keys -/
section
variable {α : Type} [DecidableEq α]
def addS (l : List α) (a : α) : List α := if a ∈ l then l else l ++ [a]
theorem mem_addS {l : List α} {a x : α} : x ∈ addS l a ↔ x ∈ l ∨ x = a := by
  unfold addS
  split
  · constructor
    · exact .inl
    · rintro (h | rfl)
      · exact h
      · assumption
  · simp
theorem addS_nd {l : List α} {a : α} (h : l.Nodup) : (addS l a).Nodup := by
  unfold addS
  split
  · exact h
  · rename_i n
    refine List.nodup_append.mpr ⟨h, by simp, fun x m y m' e => ?_⟩
    subst e
    exact n (by rw [← List.mem_singleton.mp m']; exact m)
theorem addS_len {l : List α} {a : α} : (addS l a).length ≤ l.length + 1 := by
  unfold addS
  split <;> simp
def addsS (l : List α) (m : List α) : List α := m.foldl addS l
theorem mem_addsS {m : List α} : ∀ {l : List α} {x : α}, x ∈ addsS l m ↔ x ∈ l ∨ x ∈ m := by
  induction m with
  | nil => simp [addsS]
  | cons a m ih =>
    intro l x
    show x ∈ addsS (addS l a) m ↔ _
    rw [ih, mem_addS, List.mem_cons]
    constructor
    · rintro ((h | h) | h)
      · exact .inl h
      · exact .inr (.inl h)
      · exact .inr (.inr h)
    · rintro (h | h | h)
      · exact .inl (.inl h)
      · exact .inl (.inr h)
      · exact .inr h
theorem addsS_nd {m : List α} : ∀ {l : List α}, l.Nodup → (addsS l m).Nodup := by
  induction m with
  | nil => exact fun h => h
  | cons a m ih => exact fun h => ih (addS_nd h)
theorem addsS_len {m : List α} : ∀ {l : List α}, (addsS l m).length ≤ l.length + m.length := by
  induction m with
  | nil => simp [addsS]
  | cons a m ih =>
    intro l
    have h1 := @ih (addS l a)
    have h2 := @addS_len α _ l a
    show (addsS (addS l a) m).length ≤ _
    rw [List.length_cons]
    omega
theorem addsS_new {m : List α} : ∀ {l : List α}, (l ++ m).Nodup → addsS l m = l ++ m := by
  induction m with
  | nil => intro l _; simp [addsS]
  | cons a m ih =>
    intro l h
    show addsS (addS l a) m = _
    have hn : a ∉ l := fun q => (List.nodup_append.mp h).2.2 a q a List.mem_cons_self rfl
    have e : addS l a = l ++ [a] := by unfold addS; rw [if_neg hn]
    rw [e, ih (by rw [List.append_assoc]; exact h)]
    simp
variable {κ : Type} [DecidableEq κ] {k : α → κ} {kds : List (κ × PyData)} {l : List α}
/-- the dict's keys are l -/
def DKeys (k : α → κ) (kds : List (κ × PyData)) (l : List α) : Prop := kds.map (·.1) = l.map k
theorem DKeys.len (h : DKeys k kds l) : kds.length = l.length := by
  have := congrArg List.length h
  simpa using this
theorem hasD_k (inj : ∀ {a b : α}, k a = k b → a = b) (h : DKeys k kds l) (a : α) : hasD kds (k a) = decide (a ∈ l) := by
  unfold hasD
  rw [show (kds.any fun kv => decide (kv.1 = k a)) = (kds.map (·.1)).any (fun x => decide (x = k a)) by rw [List.any_map]; rfl, h, List.any_map, Bool.eq_iff_iff, List.any_eq_true, decide_eq_true_iff]
  constructor
  · rintro ⟨x, m, q⟩
    rw [← inj (of_decide_eq_true q)]; exact m
  · intro m; exact ⟨a, m, decide_eq_true rfl⟩
theorem putD_k (inj : ∀ {a b : α}, k a = k b → a = b) (h : DKeys k kds l) (a : α) (d : PyData) : DKeys k (putD kds (k a) d) (addS l a) := by
  unfold putD addS DKeys
  rw [hasD_k inj h]
  by_cases m : a ∈ l
  · rw [decide_eq_true m, if_pos rfl, if_pos m, List.map_map, ← h]
    refine List.map_congr_left fun p _ => ?_
    show (if decide (p.1 = k a) = true then (p.1, d) else p).1 = p.1
    split <;> rfl
  · rw [decide_eq_false m, if_neg Bool.false_ne_true, if_neg m, List.map_append, List.map_append, h]
    rfl
theorem putsD_k (inj : ∀ {a b : α}, k a = k b → a = b) : ∀ {new : List (κ × PyData)} {m : List α} {kds : List (κ × PyData)} {l : List α}, DKeys k kds l → DKeys k new m → DKeys k (putsD kds new) (addsS l m)
  | [], m, kds, l, h, hm => by
    have : m = [] := by
      have := hm.len
      exact List.eq_nil_of_length_eq_zero this.symm
    subst this
    exact h
  | p :: r, m, kds, l, h, hm => by
    cases m with
    | nil => have := hm.len; simp at this
    | cons a m =>
      have hm' : p.1 = k a ∧ r.map (·.1) = m.map k := by
        have q : (p :: r).map (·.1) = (a :: m).map k := hm
        rw [List.map_cons, List.map_cons] at q
        injection q with q1 q2
        exact ⟨q1, q2⟩
      show DKeys k (putsD (putD kds p.1 p.2) r) (addsS (addS l a) m)
      rw [hm'.1]
      exact putsD_k inj (putD_k inj h a p.2) hm'.2
end
/-- keys that are tuples -/
class KeyT (α : Type) [DecidableEq α] [Enc α] where
  k : α → List Key
  dk : ∀ a : α, dkeyT (e a) = some (k a)
  kt : ∀ a : α, kTD (k a) = e a
class KeyK (α : Type) [DecidableEq α] [Enc α] where
  k : α → Key
  dk : ∀ a : α, dkey (e a) = some (k a)
  kt : ∀ a : α, kD (k a) = e a
section
variable {α β : Type} [DecidableEq α] [Enc α] [DecidableEq β] [Enc β]
theorem KeyT.inj [KeyT α] {a b : α} (h : KeyT.k a = KeyT.k b) : a = b := Enc.inj (by rw [← KeyT.kt a, h, KeyT.kt b])
theorem KeyK.inj [KeyK α] {a b : α} (h : KeyK.k a = KeyK.k b) : a = b := Enc.inj (by rw [← KeyK.kt a, h, KeyK.kt b])
instance : KeyK Int := ⟨fun i => .inl i, fun _ => rfl, fun _ => rfl⟩
instance : KeyK Nat := ⟨fun i => .inl i, fun _ => rfl, fun _ => rfl⟩
instance : KeyK Str := ⟨fun i => .inr i, fun _ => rfl, fun _ => rfl⟩
instance [KeyK α] [KeyK β] : KeyT (α × β) := ⟨fun p => [KeyK.k p.1, KeyK.k p.2], fun p => by
  show dkeys [e p.1, e p.2] = _
  simp [dkeys, KeyK.dk], fun p => by
  show PyData.tuple [kD (KeyK.k p.1), kD (KeyK.k p.2)] = _
  rw [KeyK.kt, KeyK.kt]; rfl⟩
theorem dkeys_map [KeyK α] : ∀ l : List α, dkeys (l.map e) = some (l.map KeyK.k)
  | [] => rfl
  | a :: l => by rw [List.map_cons, dkeys, KeyK.dk, Option.bind_some, dkeys_map l]; rfl
instance [KeyK α] : KeyT (List α) := ⟨fun l => l.map KeyK.k, fun l => dkeys_map l, fun l => by
  show PyData.tuple ((l.map KeyK.k).map kD) = PyData.tuple (l.map e)
  rw [List.map_map]
  congr 1
  exact List.map_congr_left fun a _ => KeyK.kt a⟩
theorem keysT_eq [KeyT α] {kds : List (List Key × PyData)} {l : List α} (h : DKeys KeyT.k kds l) : keysT kds = l.map e := by
  unfold keysT
  rw [show (kds.map fun p => kTD p.1) = (kds.map (·.1)).map kTD by rw [List.map_map]; rfl, h, List.map_map]
  exact List.map_congr_left fun a _ => KeyT.kt a
theorem keysKK_eq [KeyK α] {kds : List (Key × PyData)} {l : List α} (h : DKeys KeyK.k kds l) : keysK kds = l.map e := by
  unfold keysK
  rw [show (kds.map fun p => kD p.1) = (kds.map (·.1)).map kD by rw [List.map_map]; rfl, h, List.map_map]
  exact List.map_congr_left fun a _ => KeyK.kt a
theorem sortA_dt [KeyT α] {kds : List (List Key × PyData)} {l m : List α} (h : DKeys KeyT.k kds l) (ho : okSort (l.map e) = true) (hs : isort (l.map e) = m.map e) : sortA (.dt kds) = some (.lst (m.map e)) := by
  show (if okSort (keysT kds) = true then some (Ob.lst (isort (keysT kds))) else none) = _
  rw [keysT_eq h, ho, if_pos rfl, hs]
theorem sortA_dk [KeyK α] {kds : List (Key × PyData)} {l m : List α} (h : DKeys KeyK.k kds l) (ho : okSort (l.map e) = true) (hs : isort (l.map e) = m.map e) : sortA (.dk kds) = some (.lst (m.map e)) := by
  show (if okSort (keysK kds) = true then some (Ob.lst (isort (keysK kds))) else none) = _
  rw [keysKK_eq h, ho, if_pos rfl, hs]
theorem inA_dt [KeyT α] {kds : List (List Key × PyData)} {l : List α} (h : DKeys KeyT.k kds l) (a : α) : inA (ev a) (.dt kds) = some (fB (decide (a ∈ l))) := by
  show ((dkeyT (e a)).bind fun k => some (fB (hasD kds k))) = _
  rw [KeyT.dk, Option.bind_some, hasD_k KeyT.inj h]
theorem inA_dk [KeyK α] {kds : List (Key × PyData)} {l : List α} (h : DKeys KeyK.k kds l) (a : α) : inA (ev a) (.dk kds) = some (fB (decide (a ∈ l))) := by
  show ((dkey (e a)).bind fun k => some (fB (hasD kds k))) = _
  rw [KeyK.dk, Option.bind_some, hasD_k KeyK.inj h]
theorem niA_dt [KeyT α] {kds : List (List Key × PyData)} {l : List α} (h : DKeys KeyT.k kds l) (a : α) : niA (ev a) (.dt kds) = some (fB (!decide (a ∈ l))) := by
  show ((dkeyT (e a)).bind fun k => some (fB (!hasD kds k))) = _
  rw [KeyT.dk, Option.bind_some, hasD_k KeyT.inj h]
theorem niA_dk [KeyK α] {kds : List (Key × PyData)} {l : List α} (h : DKeys KeyK.k kds l) (a : α) : niA (ev a) (.dk kds) = some (fB (!decide (a ∈ l))) := by
  show ((dkey (e a)).bind fun k => some (fB (!hasD kds k))) = _
  rw [KeyK.dk, Option.bind_some, hasD_k KeyK.inj h]
/-! ### x[k] = v, update, comprehensions -/
theorem fPutA_dt [KeyT α] {ρ : Env} {i : Nat} {fk f : F1} {kds : List (List Key × PyData)} {o : Ob} {d : PyData} {a : α} (hi : ρ[i]? = some (some (.dt kds))) (hf : f ρ = some o) (hd : fz o = some d) (hk : fk ρ = some (ev a)) (hl : kds.length < 16777216) : fPutA i fk f ρ = some (.nx (ρ.set i (some (.dt (putD kds (KeyT.k a) d))))) := by
  unfold fPutA
  rw [hi]
  show ((f ρ).bind _) = _
  rw [hf, Option.bind_some, hd, Option.bind_some, hk]
  show ((dkeyT (e a)).bind _) = _
  rw [KeyT.dk, Option.bind_some, if_pos (show lt24 kds.length = true from Nat.ble_eq.mpr hl)]
theorem fPutA_dk [KeyK α] {ρ : Env} {i : Nat} {fk f : F1} {kds : List (Key × PyData)} {o : Ob} {d : PyData} {a : α} (hi : ρ[i]? = some (some (.dk kds))) (hf : f ρ = some o) (hd : fz o = some d) (hk : fk ρ = some (ev a)) (hl : kds.length < 16777216) : fPutA i fk f ρ = some (.nx (ρ.set i (some (.dk (putD kds (KeyK.k a) d))))) := by
  unfold fPutA
  rw [hi]
  show ((f ρ).bind _) = _
  rw [hf, Option.bind_some, hd, Option.bind_some, hk]
  show ((dkey (e a)).bind _) = _
  rw [KeyK.dk, Option.bind_some, if_pos (show lt24 kds.length = true from Nat.ble_eq.mpr hl)]
theorem fUpd_dt {ρ : Env} {i : Nat} {f : F1} {kds m : List (List Key × PyData)} (hi : ρ[i]? = some (some (.dt kds))) (hf : f ρ = some (.dt m)) (hl : kds.length + m.length < 16777216) (hne : kds.isEmpty = false ∨ m.length ≤ 1) : fUpd i f ρ = some (.nx (ρ.set i (some (.dt (putsD kds m))))) := by
  unfold fUpd
  rw [hf, Option.bind_some, hi]
  show (if ((!kds.isEmpty || Nat.ble m.length 1) && lt24 (kds.length + m.length)) = true then _ else none) = _
  have h1 : lt24 (kds.length + m.length) = true := Nat.ble_eq.mpr hl
  have h2 : (!kds.isEmpty || Nat.ble m.length 1) = true := by
    rcases hne with h | h
    · rw [h]; rfl
    · rw [Nat.ble_eq.mpr h, Bool.or_true]
  rw [h1, h2]; rfl
theorem fUpd_dk {ρ : Env} {i : Nat} {f : F1} {kds m : List (Key × PyData)} (hi : ρ[i]? = some (some (.dk kds))) (hf : f ρ = some (.dk m)) (hl : kds.length + m.length < 16777216) : fUpd i f ρ = some (.nx (ρ.set i (some (.dk (putsD kds m))))) := by
  unfold fUpd
  rw [hf, Option.bind_some, hi]
  show (if lt24 (kds.length + m.length) = true then _ else none) = _
  rw [show lt24 (kds.length + m.length) = true from Nat.ble_eq.mpr hl]; rfl
theorem dcL_eq {γ : Type} {ρ : Env} {ga : FT} {tt : FB} {tk tv : F1} (enc : γ → PyData) (c : γ → Bool) (ko vo : γ → PyData) : ∀ (xs : List γ), (∀ x ∈ xs, ∃ ρ1, ga (enc x) ρ = some ρ1 ∧ tt ρ1 = some (c x) ∧ (c x = true → (∃ o, tk ρ1 = some o ∧ fz o = some (ko x)) ∧ ∃ o, tv ρ1 = some o ∧ fz o = some (vo x))) →
    dcL ga tt tk tv (xs.map enc) ρ = some ((xs.filter c).map fun x => (ko x, vo x))
  | [], _ => rfl
  | x :: xs, h => by
    obtain ⟨ρ1, e1, e2, e3⟩ := h x List.mem_cons_self
    have ih := dcL_eq enc c ko vo xs fun y m => h y (List.mem_cons_of_mem _ m)
    rw [List.map_cons, dcL, e1, Option.bind_some, e2, Option.bind_some]
    cases hc : c x with
    | true =>
      obtain ⟨⟨o, e4, e5⟩, o', e6, e7⟩ := e3 hc
      rw [if_pos rfl, e4, Option.bind_some, e5, Option.bind_some, e6, Option.bind_some, e7, Option.bind_some, ih, Option.bind_some, List.filter_cons_of_pos (by rw [hc]), List.map_cons]
    | false => rw [if_neg Bool.false_ne_true, ih, List.filter_cons_of_neg (by rw [hc]; decide)]
theorem keyed_map {κ γ : Type} {key : PyData → Option κ} {k : γ → κ} {ko vo : γ → PyData} : ∀ (xs : List γ), (∀ x ∈ xs, key (ko x) = some (k x)) → keyed key (xs.map fun x => (ko x, vo x)) = some (xs.map fun x => (k x, vo x))
  | [], _ => rfl
  | x :: xs, h => by
    rw [List.map_cons, keyed]
    show ((key (ko x)).bind _) = _
    rw [h x List.mem_cons_self, Option.bind_some, keyed_map xs fun y m => h y (List.mem_cons_of_mem _ m)]
    rfl
/-- {k: v for x in xs if c} -/
theorem oDc_eq {γ κ : Type} [DecidableEq κ] {ρ : Env} {key : PyData → Option κ} {ob : List (κ × PyData) → Ob} {n : Nat} {vs : List Nat} {fi : FD} {ga : FT} {tt : FB} {tk tv : F1} (xs : List γ) (enc : γ → PyData) (c : γ → Bool) (k : γ → κ) (ko vo : γ → PyData) (hn : ρ.length = n) (hi : fi ρ = some (xs.map enc)) (hs : xs.length ≤ 16777216)
    (hk : ∀ x ∈ xs, key (ko x) = some (k x)) (h : ∀ x ∈ xs, ∃ ρ1, ga (enc x) (wipeE ρ vs) = some ρ1 ∧ tt ρ1 = some (c x) ∧ (c x = true → (∃ o, tk ρ1 = some o ∧ fz o = some (ko x)) ∧ ∃ o, tv ρ1 = some o ∧ fz o = some (vo x))) :
    oDc key ob n vs fi ga tt tk tv ρ = some (ob (putsD [] ((xs.filter c).map fun x => (k x, vo x)))) := by
  unfold oDc
  rw [if_pos (by rw [hn]; exact Nat.beq_refl n), hi, Option.bind_some, if_pos (short_le (by rw [List.length_map]; exact hs)), dcL_eq enc c ko vo xs h, Option.bind_some, keyed_map _ fun x m => hk x (List.mem_filter.mp m).1, Option.bind_some]
end
end DL

namespace LW
open PySem PySem.Spec L2 DL
theorem ws_tg {e : FE} {ga : FT} {g : FS} {ρ : DL.Env} {Q : Out → Prop} (h : WE e ρ fun o ρ' => ∃ d ρ2, fz o = some d ∧ ga d ρ' = some ρ2 ∧ WS g ρ2 Q) : WS (fSeq (fTgE e ga) g) ρ Q := by
  obtain ⟨o, ρ', e1, d, ρ2, ed, e3, q⟩ := h
  refine ws_nx (ρ1 := ρ2) ?_ q
  unfold fTgE
  rw [e1, Option.bind_some, ed, Option.bind_some, e3]; rfl
theorem we_tup2 {f g : FE} {ρ : DL.Env} {Q : Ob → DL.Env → Prop} (h : WE f ρ fun o ρ' => ∃ d, fz o = some d ∧ WE g ρ' fun o' ρ'' => ∃ d', fz o' = some d' ∧ Q (.fr (.tuple [d, d'])) ρ'') : WE (eO mkTup (eaCons f (eaCons g eaNil))) ρ Q := by
  obtain ⟨o, ρ', e1, d, h1, o', ρ'', e2, d', h2, q⟩ := h
  refine ⟨_, ρ'', ?_, q⟩
  unfold eO
  show ((((f ρ).bind _).bind _) : Option _) = _
  simp only [eaCons, eaNil, e1, e2, h1, h2, Option.bind_some]
  rfl
theorem we_tup3 {f g k : FE} {ρ : DL.Env} {Q : Ob → DL.Env → Prop} (h : WE f ρ fun o ρ' => ∃ d, fz o = some d ∧ WE g ρ' fun o' ρ'' => ∃ d', fz o' = some d' ∧ WE k ρ'' fun o3 ρ3 => ∃ d3, fz o3 = some d3 ∧ Q (.fr (.tuple [d, d', d3])) ρ3) : WE (eO mkTup (eaCons f (eaCons g (eaCons k eaNil)))) ρ Q := by
  obtain ⟨o, ρ', e1, d, h1, o', ρ'', e2, d', h2, o3, ρ3, e3, d3, h3, q⟩ := h
  refine ⟨_, ρ3, ?_, q⟩
  unfold eO
  simp only [eaCons, eaNil, e1, e2, e3, h1, h2, h3, Option.bind_some]
  rfl
theorem ws_seqW {f g : FS} {ρ ρ2 : DL.Env} {Q : Out → Prop} (js : List Nat) (h : nxW js f ρ = some ρ2) (k : ∀ xs : List (Option Ob), xs.length = js.length → WS g (fillE ρ2 (js.zip xs)) Q) : WS (fSeq f g) ρ Q := by
  obtain ⟨q, e, h⟩ := bind_some h
  cases q with
  | nx ρ3 =>
    cases h
    obtain ⟨xs, h1, h2⟩ := wipe_fill ρ3 js
    have q := k xs h1
    rw [h2] at q
    exact ws_nx e q
  | _ => cases h
def stL (ga : FT) (fb : FS) : List PyData → DL.Env → Option DL.Env
  | [], ρ => some ρ
  | d :: ds, ρ => (ga d ρ).bind fun ρ1 => (fb ρ1).bind fun r => match r with
    | .nx ρ2 => stL ga fb ds ρ2
    | _ => none
theorem stL_app {ga : FT} {fb : FS} : ∀ (ds es : List PyData) (ρ ρ2 : DL.Env), stL ga fb ds ρ = some ρ2 → forL ga fb (ds ++ es) ρ = forL ga fb es ρ2
  | [], es, ρ, ρ2, h => by cases h; rfl
  | d :: ds, es, ρ, ρ2, h => by
    obtain ⟨q, e, h⟩ := bind_some (show ((ga d ρ).bind fun ρ1 => (fb ρ1).bind _) = _ from h)
    obtain ⟨r, e2, h⟩ := bind_some h
    show ((ga d ρ).bind fun ρ1 => (fb ρ1).bind _) = _
    rw [e, Option.bind_some, e2, Option.bind_some]
    cases r with
    | nx ρ3 => exact stL_app ds es ρ3 ρ2 h
    | _ => cases h
def stW (js : List Nat) (ga : FT) (fb : FS) (ds : List PyData) (ρ : DL.Env) : Option DL.Env := (stL ga fb ds ρ).map fun ρ => wipeE ρ js
theorem for_part {ga : FT} {fb : FS} {ds es : List PyData} {ρ ρ2 : DL.Env} {Q : Out → Prop} (js : List Nat) (h : stW js ga fb ds ρ = some ρ2) (k : ∀ xs : List (Option Ob), xs.length = js.length → ∃ r, forL ga fb es (fillE ρ2 (js.zip xs)) = some r ∧ Q r) : ∃ r, forL ga fb (ds ++ es) ρ = some r ∧ Q r := by
  unfold stW at h
  obtain ⟨ρ3, e, h⟩ := Option.map_eq_some_iff.mp h
  subst h
  obtain ⟨xs, h1, h2⟩ := wipe_fill ρ3 js
  obtain ⟨r, q, hr⟩ := k xs h1
  rw [h2] at q
  exact ⟨r, (stL_app ds es ρ ρ3 e).trans q, hr⟩
theorem map_eq {α β : Type} {f g : α → β} {l : List α} (h : l.map f = l.map g) : ∀ a ∈ l, f a = g a := List.map_inj_left.mp h
end LW

namespace LW
open PySem PySem.Spec PyProof.Rows L2 DL
theorem perm_pop {α : Type} (l : List α) (n : Nat) (h : n < l.length) : (l[n] :: l.eraseIdx n).Perm l := by
  rw [List.eraseIdx_eq_take_drop_succ]
  have e : l = l.take n ++ l[n] :: l.drop (n + 1) := by rw [← List.drop_eq_getElem_cons h, List.take_append_drop]
  exact List.perm_middle.symm.trans (List.Perm.of_eq e.symm)
theorem ePop_eq {i : Nat} {fe : FE} {ρ ρ' : DL.Env} {l0 l : List PyData} {n : Nat} {v : Int} {d : PyData} (h1 : ρ[i]? = some (some (.lst l0))) (h2 : fe ρ = some (.fr (.int v), ρ')) (h3 : ρ'[i]? = some (some (.lst l))) (hs : sm62 v = true) (hix : ixN' l.length v = some n) (hl : l[n]? = some d) : ePop i fe ρ = some (.fr d, ρ'.set i (some (.lst (l.eraseIdx n)))) := by
  unfold ePop
  simp only [h1, h2, h3, Option.bind_some, asI, hs, if_true, hix, hl]
theorem ix_nat {n k : Nat} (hn : n < k) : ixN' k (n : Int) = some n := by
  show (if Nat.blt n k then some n else none) = _
  rw [if_pos (by rw [Nat.blt_eq]; exact hn)]
theorem we_popPick {F : FnB} (hP : Pk F) {i : Nat} {s : Ob} {t : DL.Env} {fl : FDE} {rest : List PyData} {Q : Ob → DL.Env → Prop} (hs : IsS s) (hi : t[i]? = some (some (.lst rest))) (ha : fl (some s :: t) = some ([.int rest.length], some s :: t)) (h1 : 1 ≤ rest.length) (h2 : rest.length < 1000000)
    (h : ∀ (n : Nat) (hn : n < rest.length) s', IsS s' → Q (.fr rest[n]) (some s' :: t.set i (some (.lst (rest.eraseIdx n))))) : WE (ePop (i + 1) (eCallB 0 1 F fl)) (some s :: t) Q := by
  obtain ⟨o, ρ', e, q⟩ : WE (eCallB 0 1 F fl) (some s :: t) (fun o ρ' => ∃ v s', o = .fr (.int v) ∧ ρ' = some s' :: t ∧ 0 ≤ v ∧ v < rest.length ∧ IsS s') := by
    refine we_pick hP (many := rest.length) hs ha (by omega) (by omega) fun v s' h0 h1 hs' => ⟨v, s', rfl, rfl, h0, h1, hs'⟩
  obtain ⟨v, s', rfl, rfl, h0, h3, hs'⟩ := q
  obtain ⟨n, rfl⟩ : ∃ n : Nat, v = (n : Int) := ⟨v.toNat, by omega⟩
  have hn : n < rest.length := by omega
  refine ⟨.fr rest[n], some s' :: t.set i (some (.lst (rest.eraseIdx n))), ?_, h n hn s' hs'⟩
  have hi1 : (some s :: t)[i + 1]? = some (some (.lst rest)) := hi
  have hi2 : (some s' :: t)[i + 1]? = some (some (.lst rest)) := hi
  have hsm : sm62 ((n : Nat) : Int) = true := sm62_of (by omega) (by omega)
  exact ePop_eq hi1 e hi2 hsm (ix_nat hn) (List.getElem?_eq_getElem hn)
theorem mixed_run (hP : Pk F__law_pick) {s : Ob} (hs : IsS s) (things : List PyData) (hl : things.length ≤ 60000) : ∃ ys s', F__law_mixed s [.list things] = some (.fr (.list ys), s') ∧ ys.Perm things ∧ IsS s' := by
  have go : WS b__law_mixed [some s, some (.fr (.list things)), none, none] (fun r => ∃ ys s' t, r = .rt (.fr (.list ys)) (some s' :: t) ∧ ys.Perm things ∧ IsS s') := by
    unfold b__law_mixed
    refine ws_nx (ρ1 := [some s, some (.fr (.list things)), some (.lst things), some (.lst [])]) rfl ?_
    refine ws_nx (ρ1 := [some s, some (.fr (.list things)), some (.lst things), some (.acc 0 [])]) rfl ?_
    refine ws_wh things.length (fun k ρ => ∃ s rest out, ρ = [some s, some (.fr (.list things)), some (.lst rest), some (.acc out.length out)] ∧ IsS s ∧ (out ++ rest).Perm things ∧ rest.length = k) ⟨s, things, [], rfl, hs, List.Perm.refl _, rfl⟩ (by show things.length < 65536; omega) ?_
    rintro k ρ ⟨s, rest, out, rfl, hs, hp, hk⟩
    have hlen : out.length + rest.length = things.length := by rw [← hp.length_eq, List.length_append]
    refine ⟨!rest.isEmpty, bO_eq ?_, ?_, ?_⟩
    · refine o2_eq (x := .lst rest) (y := .lst []) rfl rfl ?_
      show (if (shal 9 (.list rest) || shal 9 (.list [])) = true then some (fB (!PyData.eqv (.list rest) (.list []))) else none) = _
      have h1 : shal 9 (.list []) = true := by simp [shal, shalAll]
      rw [h1, Bool.or_true, if_pos rfl]
      cases rest <;> simp [PyData.eqv, PyData.eqvAll]
    · intro hb
      have h1 : 1 ≤ rest.length := by cases rest with
        | nil => cases hb
        | cons a l => simp
      obtain ⟨o, ρ', e, n, hn, s', hs', rfl, rfl⟩ : WE (ePop 2 (eCallB 0 1 F__law_pick (eaCons (eP (oL (g1 lenA) (lCons (rdV 2) lNil))) eaNil))) [some s, some (.fr (.list things)), some (.lst rest), some (.acc out.length out)] (fun o ρ' => ∃ n, ∃ hn : n < rest.length, ∃ s', IsS s' ∧ o = .fr rest[n] ∧ ρ' = [some s', some (.fr (.list things)), some (.lst (rest.eraseIdx n)), some (.acc out.length out)]) :=
        we_popPick hP (i := 1) hs rfl rfl h1 (by omega) fun n hn s' hs' => ⟨n, hn, s', hs', rfl, rfl⟩
      refine ⟨.nx [some s', some (.fr (.list things)), some (.lst (rest.eraseIdx n)), some (.acc (out.length + 1) (rest[n] :: out))], ?_, rest.length - 1, by omega, s', rest.eraseIdx n, rest[n] :: out, rfl, hs', ?_, List.length_eraseIdx_of_lt hn⟩
      · show ((ePop 2 _ _).bind _) = _
        rw [e, Option.bind_some]
        show (if lt24 out.length = true then some _ else none) = _
        rw [if_pos (by show Nat.blt out.length 16777216 = true; rw [Nat.blt_eq]; omega)]
        rfl
      · refine List.Perm.trans ?_ hp
        show (rest[n] :: (out ++ rest.eraseIdx n)).Perm (out ++ rest)
        exact List.perm_middle.symm.trans ((perm_pop rest n hn).append_left out)
    · intro hb
      have hr : rest = [] := by cases rest with
        | nil => rfl
        | cons a l => cases hb
      subst hr
      refine ws_nx (ρ1 := [some s, some (.fr (.list things)), some (.lst []), some (.fr (.list out.reverse))]) rfl ?_
      refine ws_rt rfl ⟨out.reverse, s, _, rfl, ?_, hs⟩
      have := hp
      rw [List.append_nil] at this
      exact (List.reverse_perm out).trans this
  obtain ⟨r, e, ys, s', t, rfl, hp, hs'⟩ := go
  refine ⟨ys, s', ?_, hp, hs'⟩
  show ((b__law_mixed [some s, some (.fr (.list things)), none, none]).bind _) = _
  rw [e]
  rfl
end LW

namespace LW
abbrev Sq2 := Nat × Nat
def nthB : List Nat → Nat → Nat → Bool
  | [], _, _ => false
  | a :: _, 0, c => Nat.beq a c
  | _ :: l, r + 1, c => nthB l r c
def hit (p : List Nat) (q : Sq2) : Bool := nthB p q.1 q.2
def misses (L : List Sq2) (p : List Nat) : Bool := L.all fun q => !hit p q
def IE (P : List (List Nat)) (L : List Sq2) : Int := P.countP (misses L)
theorem IE_cons (P : List (List Nat)) (q : Sq2) (L : List Sq2) : IE P (q :: L) = IE P L - IE (P.filter (hit · q)) L := by
  induction P with
  | nil => rfl
  | cons p P ih =>
    unfold IE at ih ⊢
    rw [List.countP_cons, List.countP_cons]
    have e : misses (q :: L) p = (!hit p q && misses L p) := rfl
    rw [e]
    cases h : hit p q with
    | true =>
      rw [List.filter_cons_of_pos (by rw [h]), List.countP_cons]
      cases misses L p <;> simp <;> omega
    | false =>
      rw [List.filter_cons_of_neg (by rw [h]; decide)]
      cases misses L p <;> simp <;> omega
theorem IE_nil (P : List (List Nat)) : IE P [] = P.length := by
  unfold IE
  rw [show misses [] = fun _ => true from rfl]
  simp
def okS (S : List Sq2) (q : Sq2) : Bool := S.all fun z => !(Nat.beq z.1 q.1 || Nat.beq z.2 q.2)
def fac : Nat → Nat
  | 0 => 1
  | n + 1 => fac n * (n + 1)
def Dn (n : Nat) : List Sq2 → List Sq2 → Int
  | S, [] => fac (n - S.length)
  | S, q :: L => Dn n S L - if okS S q then Dn n (S ++ [q]) L else 0
def chk (n : Nat) : List Sq2 → List (List Nat) → List Sq2 → Bool
  | S, P, [] => Nat.beq P.length (fac (n - S.length)) && Nat.ble S.length n
  | S, P, q :: R => chk n S P R && if okS S q then chk n (S ++ [q]) (P.filter (hit · q)) R else (P.filter (hit · q)).isEmpty
theorem chk_IE (n : Nat) : ∀ (R S : List Sq2) (P : List (List Nat)), chk n S P R = true → ∀ L, L.Sublist R → IE P L = Dn n S L
  | [], S, P, h, L, hL => by
    cases hL
    unfold chk at h
    rw [IE_nil, Dn]
    rw [Bool.and_eq_true, Nat.beq_eq] at h
    rw [h.1]
  | q :: R, S, P, h, L, hL => by
    unfold chk at h
    rw [Bool.and_eq_true] at h
    cases hL with
    | cons _ h2 => exact chk_IE n R S P h.1 L h2
    | cons_cons _ h2 =>
      rename_i L'
      rw [IE_cons, Dn, chk_IE n R S P h.1 L' h2]
      have h3 := h.2
      cases ho : okS S q with
      | true =>
        rw [ho, if_pos rfl] at h3
        rw [if_pos rfl, chk_IE n R _ _ h3 L' h2]
      | false =>
        rw [ho, if_neg Bool.false_ne_true, List.isEmpty_iff] at h3
        rw [if_neg Bool.false_ne_true, h3]
        rfl
theorem chk_le (n : Nat) : ∀ (R S : List Sq2) (P : List (List Nat)), chk n S P R = true → S.length ≤ n
  | [], S, P, h => by
    unfold chk at h
    rw [Bool.and_eq_true] at h
    exact Nat.le_of_ble_eq_true h.2
  | q :: R, S, P, h => by
    unfold chk at h
    rw [Bool.and_eq_true] at h
    exact chk_le n R S P h.1
def Xn : List Sq2 → Nat → List Sq2 → Nat
  | _, 0, _ => 1
  | _, _ + 1, [] => 0
  | S, k + 1, q :: R => Xn S (k + 1) R + if okS S q then Xn (S ++ [q]) k R else 0
theorem Xn_0 (S R : List Sq2) : Xn S 0 R = 1 := by cases R <;> rfl
theorem Xn_many : ∀ (R S : List Sq2) (k : Nat), R.length < k → Xn S k R = 0
  | [], S, k + 1, _ => rfl
  | q :: R, S, k + 1, h => by
    simp only [List.length_cons] at h
    rw [Xn, Xn_many R S (k + 1) (by omega), Xn_many R (S ++ [q]) k (by omega)]
    simp
  | _, _, 0, h => by omega
theorem Xn_pow : ∀ (R S : List Sq2) (k : Nat), Xn S k R ≤ 2 ^ R.length
  | R, S, 0 => by rw [Xn_0]; exact Nat.one_le_two_pow
  | [], S, k + 1 => by rw [Xn]; exact Nat.zero_le _
  | q :: R, S, k + 1 => by
    have h1 := Xn_pow R S (k + 1)
    have h2 := Xn_pow R (S ++ [q]) k
    rw [Xn, List.length_cons, Nat.pow_succ]
    split <;> omega
theorem chk_X (n : Nat) : ∀ (R S : List Sq2) (P : List (List Nat)), chk n S P R = true → ∀ L, L.Sublist R → ∀ k, n < S.length + k → Xn S k L = 0
  | R, S, P, h, L, hL, 0, hk => by
    have := chk_le n R S P h
    omega
  | [], S, P, h, L, hL, k + 1, hk => by cases hL; rfl
  | q :: R, S, P, h, L, hL, k + 1, hk => by
    unfold chk at h
    rw [Bool.and_eq_true] at h
    cases hL with
    | cons _ h2 => exact chk_X n R S P h.1 L h2 (k + 1) hk
    | cons_cons _ h2 =>
      rename_i L'
      rw [Xn, chk_X n R S P h.1 L' h2 (k + 1) hk]
      have h3 := h.2
      cases ho : okS S q with
      | true =>
        rw [ho, if_pos rfl] at h3
        rw [if_pos rfl, chk_X n R _ _ h3 L' h2 k (by rw [List.length_append]; simp; omega)]
      | false => rfl
/-! ## sums with signs in turn -/
def alt : Nat → (Nat → Int) → Int
  | 0, _ => 0
  | K + 1, g => g 0 - alt K fun k => g (k + 1)
theorem alt_add : ∀ (K : Nat) (g h : Nat → Int), alt K (fun k => g k + h k) = alt K g + alt K h
  | 0, _, _ => rfl
  | K + 1, g, h => by
    rw [alt, alt, alt, alt_add K (fun k => g (k + 1)) fun k => h (k + 1)]
    omega
theorem alt_zero : ∀ (K : Nat) (g : Nat → Int), (∀ k, g k = 0) → alt K g = 0
  | 0, _, _ => rfl
  | K + 1, g, h => by rw [alt, h 0, alt_zero K _ fun k => h (k + 1)]; rfl
theorem alt_congr : ∀ (K : Nat) (g h : Nat → Int), (∀ k, g k = h k) → alt K g = alt K h := fun K g h e => by rw [funext e]
theorem alt_more : ∀ (j m : Nat) (g : Nat → Int), (∀ k, j ≤ k → g k = 0) → alt (j + m) g = alt j g
  | 0, m, g, h => by rw [Nat.zero_add, alt_zero m g fun k => h k (Nat.zero_le k)]; rfl
  | j + 1, m, g, h => by
    rw [show j + 1 + m = (j + m) + 1 from by omega, alt, alt, alt_more j m _ fun k hk => h (k + 1) (by omega)]
def sgn (k : Nat) : Int := if k / 2 * 2 = k then 1 else -1
theorem sgn_succ (k : Nat) : sgn (k + 1) = - sgn k := by
  unfold sgn
  by_cases h : k / 2 * 2 = k
  · rw [if_pos h, if_neg (by omega)]
  · rw [if_neg h, if_pos (by omega)]; rfl
theorem alt_last : ∀ (j : Nat) (g : Nat → Int), alt (j + 1) g = alt j g + g j * sgn j
  | 0, g => by
    show g 0 - 0 = 0 + g 0 * sgn 0
    rw [show sgn 0 = 1 from rfl]; omega
  | j + 1, g => by
    rw [alt, alt_last j, alt, sgn_succ, Int.mul_neg]
    omega
theorem Dn_alt (n : Nat) : ∀ (R S : List Sq2) (K : Nat), R.length < K → Dn n S R = alt K fun k => (Xn S k R : Int) * fac (n - (S.length + k))
  | [], S, K + 1, _ => by
    rw [alt, alt_zero K _ fun k => by rw [Xn]; simp]
    rw [Xn_0, Dn]; simp
  | q :: R, S, K + 1, h => by
    simp only [List.length_cons] at h
    have h1 := Dn_alt n R S (K + 1) (by omega)
    rw [alt, Xn_0] at h1
    rw [Dn, alt, Xn_0, h1]
    have e : (fun k => (Xn S (k + 1) (q :: R) : Int) * (fac (n - (S.length + (k + 1))) : Int)) = fun k => (Xn S (k + 1) R : Int) * (fac (n - (S.length + (k + 1))) : Int) + if okS S q then (Xn (S ++ [q]) k R : Int) * (fac (n - ((S ++ [q]).length + k)) : Int) else 0 := by
      funext k
      rw [Xn, List.length_append, List.length_singleton, show S.length + 1 + k = S.length + (k + 1) from by omega]
      split
      · rw [Int.natCast_add, Int.add_mul]
      · simp
    rw [e, alt_add]
    cases ho : okS S q with
    | true =>
      simp only [if_true]
      rw [Dn_alt n R (S ++ [q]) K (by omega)]
      omega
    | false =>
      simp only [Bool.false_eq_true, if_false]
      rw [alt_zero K (fun _ => 0) fun _ => rfl]
      omega
/-! ## the levels -/
def ltS (a b : Sq2) : Bool := Nat.blt a.1 b.1 || (Nat.beq a.1 b.1 && Nat.blt a.2 b.2)
def above (s : List Sq2) (q : Sq2) : Bool := match s.getLast? with
  | none => true
  | some z => ltS z q
def extS (L s : List Sq2) : List Sq2 := L.filter fun q => above s q && okS s q
def lev (L : List Sq2) : Nat → List (List Sq2)
  | 0 => [[]]
  | k + 1 => (lev L k).flatMap fun s => (extS L s).map fun q => s ++ [q]
def Nn (L : List Sq2) : Nat → List Sq2 → Nat
  | 0, _ => 1
  | k + 1, s => ((extS L s).map fun q => Nn L k (s ++ [q])).sum
theorem sum_flat {α β : Type} (f : α → List β) (g : β → Nat) : ∀ l : List α, ((l.flatMap f).map g).sum = (l.map fun a => ((f a).map g).sum).sum
  | [] => rfl
  | a :: l => by rw [List.flatMap_cons, List.map_append, List.sum_append, sum_flat f g l]; rfl
theorem lev_N (L : List Sq2) : ∀ (j k : Nat), ((lev L j).map (Nn L k)).sum = Nn L (j + k) []
  | 0, k => by rw [Nat.zero_add]; show Nn L k [] + 0 = _; omega
  | j + 1, k => by
    rw [show j + 1 + k = j + (k + 1) from by omega, ← lev_N L j (k + 1), lev, sum_flat]
    congr 1
    refine List.map_congr_left fun s _ => ?_
    rw [List.map_map]; rfl
theorem lev_len (L : List Sq2) (j : Nat) : (lev L j).length = Nn L j [] := by
  have := lev_N L j 0
  rw [Nat.add_zero] at this
  rw [← this]
  have h1 : ∀ l : List (List Sq2), l.length = (l.map (Nn L 0)).sum := fun l => by
    induction l with
    | nil => rfl
    | cons a l ih => rw [List.map_cons, List.sum_cons, List.length_cons, ih]; show _ = 1 + _; omega
  exact h1 _
def Asc (L : List Sq2) : Prop := L.Pairwise fun a b => ltS a b = true
theorem ltS_irr (a : Sq2) : ltS a a = false := by
  unfold ltS
  have h : ∀ n, Nat.blt n n = false := fun n => by rw [Bool.eq_false_iff]; intro h; rw [Nat.blt_eq] at h; omega
  rw [h, h, Bool.and_false]; rfl
theorem ltS_asym {a b : Sq2} (h : ltS a b = true) : ltS b a = false := by
  unfold ltS at *
  rw [Bool.or_eq_true, Bool.and_eq_true, Nat.blt_eq, Nat.blt_eq, Nat.beq_eq] at h
  rw [Bool.eq_false_iff]
  intro q
  rw [Bool.or_eq_true, Bool.and_eq_true, Nat.blt_eq, Nat.blt_eq, Nat.beq_eq] at q
  omega
theorem above_snoc (s : List Sq2) (q z : Sq2) : above (s ++ [q]) z = ltS q z := by
  unfold above
  rw [List.getLast?_concat]
theorem filter_suf {L A R : List Sq2} {q : Sq2} (hL : Asc L) (e : L = A ++ q :: R) : L.filter (ltS q) = R := by
  subst e
  unfold Asc at hL
  rw [List.pairwise_append] at hL
  obtain ⟨_, h2, h3⟩ := hL
  rw [List.pairwise_cons] at h2
  rw [List.filter_append, List.filter_cons_of_neg (by rw [ltS_irr]; decide), List.filter_eq_nil_iff.mpr fun a ha => by rw [ltS_asym (h3 a ha q List.mem_cons_self)]; decide, List.nil_append, List.filter_eq_self.mpr fun b hb => h2.1 b hb]
theorem N_X {L : List Sq2} (hL : Asc L) : ∀ (k : Nat) (s A R : List Sq2), L = A ++ R → L.filter (above s) = R → Nn L k s = Xn s k R
  | 0, s, A, R, _, _ => by rw [Xn_0]; rfl
  | k + 1, s, A, R, e, hs => by
    have hx : extS L s = R.filter (okS s) := by
      unfold extS
      rw [← hs, List.filter_filter]
      refine List.filter_congr fun q _ => ?_
      rw [Bool.and_comm]
    rw [Nn, hx]
    have go : ∀ (R A : List Sq2), L = A ++ R → ((R.filter (okS s)).map fun q => Nn L k (s ++ [q])).sum = Xn s (k + 1) R := by
      intro R
      induction R with
      | nil => intro A e; rfl
      | cons q R ih =>
        intro A e
        have h1 := ih (A ++ [q]) (by rw [e]; simp)
        have h2 := N_X hL k (s ++ [q]) (A ++ [q]) R (by rw [e]; simp) (by
          rw [← filter_suf hL e]
          refine List.filter_congr fun z _ => ?_
          rw [above_snoc])
        rw [Xn]
        cases ho : okS s q with
        | true =>
          rw [List.filter_cons_of_pos (by rw [ho]), List.map_cons, List.sum_cons, h1, h2, if_pos rfl]
          omega
        | false =>
          rw [List.filter_cons_of_neg (by rw [ho]; decide), h1, if_neg Bool.false_ne_true]
          rfl
    exact go R A e
theorem lev_X {L : List Sq2} (hL : Asc L) (k : Nat) : (lev L k).length = Xn [] k L := by
  rw [lev_len, N_X hL k [] [] L rfl]
  exact List.filter_eq_self.mpr fun _ _ => rfl
theorem lev_stop {L : List Sq2} {j : Nat} (h : lev L j = []) : ∀ k, j ≤ k → (lev L k).length = 0
  | 0, hk => by
    have : j = 0 := by omega
    subst this; rw [h]; rfl
  | k + 1, hk => by
    by_cases e : j = k + 1
    · subst e; rw [h]; rfl
    · have := lev_stop h k (by omega)
      rw [List.length_eq_zero_iff] at this
      rw [lev, this]; rfl
/-- the law's count -/
theorem due_ok {n : Nat} {P : List (List Nat)} {B L : List Sq2} (h : chk n [] P B = true) (hs : L.Sublist B) (hL : Asc L) {j : Nat} (hj : lev L j = []) : IE P L = alt j fun k => ((lev L k).length : Int) * fac (n - k) := by
  rw [chk_IE n B [] P h L hs, Dn_alt n L [] (j + (L.length + 1)) (by omega)]
  rw [alt_more j (L.length + 1) _ fun k hk => by rw [← lev_X hL, lev_stop hj k hk]; simp]
  refine alt_congr j _ _ fun k => ?_
  rw [lev_X hL]
  simp
theorem lev_n {n : Nat} {P : List (List Nat)} {B L : List Sq2} (h : chk n [] P B = true) (hs : L.Sublist B) (hL : Asc L) {j : Nat} (hj : lev L j ≠ []) : j ≤ n := by
  by_cases c : j ≤ n
  · exact c
  · have := chk_X n B [] P h L hs j (by simp; omega)
    rw [← lev_X hL, List.length_eq_zero_iff] at this
    exact absurd this hj
/-! ## the arrangements -/
def arrF (n : Nat) : Nat → List (List Nat)
  | 0 => [[]]
  | t + 1 => (arrF n t).flatMap fun row => ((List.range n).filter fun c => !row.any (Nat.beq c)).map fun c => row ++ [c]
def arr (n : Nat) : List (List Nat) := arrF n n
def sqB (n : Nat) : List Sq2 := (List.range n).flatMap fun r => (List.range n).map fun c => (r, c)
theorem chk1 : chk 1 [] (arr 1) (sqB 1) = true := by decide +kernel
theorem chk2 : chk 2 [] (arr 2) (sqB 2) = true := by decide +kernel
theorem chk3 : chk 3 [] (arr 3) (sqB 3) = true := by decide +kernel
theorem chk4 : chk 4 [] (arr 4) (sqB 4) = true := by decide +kernel
theorem chk5 : chk 5 [] (arr 5) (sqB 5) = true := by decide +kernel
def sqsF : Nat → List Nat → List Sq2
  | _, [] => []
  | i, c :: cs => (i, c) :: sqsF (i + 1) cs
theorem mem_sqs : ∀ (p : List Nat) (i r c : Nat), (r, c) ∈ sqsF i p ↔ i ≤ r ∧ nthB p (r - i) c = true
  | [], i, r, c => by simp [sqsF, nthB]
  | a :: p, i, r, c => by
    rw [sqsF, List.mem_cons, mem_sqs p (i + 1) r c]
    by_cases h : r = i
    · subst h
      rw [Nat.sub_self, nthB, Nat.beq_eq]
      constructor
      · rintro (h | h)
        · injection h with _ h; exact ⟨Nat.le_refl _, h.symm⟩
        · omega
      · rintro ⟨_, h⟩; exact Or.inl (by rw [h])
    · constructor
      · rintro (h2 | ⟨h2, h3⟩)
        · injection h2 with h2 _; exact absurd h2 h
        · refine ⟨by omega, ?_⟩
          rw [show r - i = (r - (i + 1)) + 1 from by omega, nthB]; exact h3
      · rintro ⟨h2, h3⟩
        rw [show r - i = (r - (i + 1)) + 1 from by omega, nthB] at h3
        exact Or.inr ⟨by omega, h3⟩
theorem miss_sqs (p : List Nat) (L : List Sq2) : misses L p = ((sqsF 0 p).filter fun q => decide (q ∈ L)).isEmpty := by
  rw [Bool.eq_iff_iff, List.isEmpty_iff, List.filter_eq_nil_iff]
  unfold misses
  rw [List.all_eq_true]
  constructor
  · intro h q hq hd
    have := h q (of_decide_eq_true hd)
    have h2 := (mem_sqs p 0 q.1 q.2).mp hq
    rw [Nat.sub_zero] at h2
    unfold hit at this
    rw [h2.2] at this
    cases this
  · intro h q hq
    have := h q
    cases hh : hit p q with
    | false => rfl
    | true =>
      refine absurd (decide_eq_true hq) (h q ((mem_sqs p 0 q.1 q.2).mpr ⟨Nat.zero_le _, ?_⟩))
      rw [Nat.sub_zero]; exact hh
end LW

namespace LW
open PySem PySem.Spec PyProof.Rows L2 DL
theorem pick_ok : Pk F__law_pick := pick3_ok 104729 998244353 17 2147483647 16
theorem source_ok : Sc F__law_source := src3_ok 83 40503 59 23 2147483629 1
abbrev Good (x : Option Ob) : Out → Prop := fun r => ∃ t, r = .rt (.fr (.bool true)) (x :: t)
def digs : Nat → Nat → List PyData
  | 0, _ => []
  | f + 1, c => if Nat.ble c 1 then [] else digs f (c / 10) ++ [.int ((c % 10 : Nat) : Int)]
def decL (c : Nat) : PyData := .tuple (digs 20 c)
def tail10 : FS := (fSeq c10_law (fSeq c11_law (fSeq c12_law (fSeq c13_law (fSeq c14_law (fSeq c15_law (fSeq c16_law (fSeq c17_law (fSeq c18_law (fSeq c19_law (fSeq c20_law c21_law)))))))))))
def tail9 : FS := (fSeq c9_law (fSeq c10_law (fSeq c11_law (fSeq c12_law (fSeq c13_law (fSeq c14_law (fSeq c15_law (fSeq c16_law (fSeq c17_law (fSeq c18_law (fSeq c19_law (fSeq c20_law (fSeq c21_law c22_law)))))))))))))
def tail2 : FS := (fSeq c2_law (fSeq c3_law (fSeq c4_law (fSeq c5_law (fSeq c6_law (fSeq c7_law (fSeq c8_law tail9)))))))
theorem b11_2 (x : Option Ob) (s : Ob) : c2_law [x, some s, some (.fr (.int 1)), some (.fr (.int 1)), none, none, none, none, none, none, none, none, none, none, none, none, none] = some (.nx [x, some s, some (.fr (.int 1)), some (.fr (.int 1)), some (.fr (.list [(.tuple [(.int 0), (.int 0)])])), some (.fr (.int 0)), some (.dk []), none, none, none, none, none, none, none, none, none, none]) := by kernel_rfl
theorem b11_3 (x : Option Ob) (s : Ob) : c3_law [x, some s, some (.fr (.int 1)), some (.fr (.int 1)), some (.fr (.list [(.tuple [(.int 0), (.int 0)])])), some (.fr (.int 0)), some (.dk []), none, none, none, none, none, none, none, none, none, none] = some (.nx [x, some s, some (.fr (.int 1)), some (.fr (.int 1)), some (.fr (.list [(.tuple [(.int 0), (.int 0)])])), some (.fr (.int 0)), some (.dk []), none, none, none, none, none, none, none, none, none, none]) := by kernel_rfl
@[irreducible] def L11_0 : List PyData := ([1, 10] : List Nat).map decL
theorem b11_i (x : Option Ob) (s : Ob) : iSeq (dCall 1 F__law_all_lots (aCons (o2 mulO (rdV 2) (rdV 3)) aNil)) [x, some s, some (.fr (.int 1)), some (.fr (.int 1)), some (.fr (.list [(.tuple [(.int 0), (.int 0)])])), some (.fr (.int 0)), some (.dk []), none, none, none, none, none, none, none, none, none, none] = some (L11_0 ++ ([])) := by kernel_rfl
theorem b11_p0 (x y7 y14 y15 y16 : Option Ob) (s : Ob) : stW [7, 14, 15, 16] lg0_law lb0_law L11_0 [x, some s, some (.fr (.int 1)), some (.fr (.int 1)), some (.fr (.list [(.tuple [(.int 0), (.int 0)])])), some (.fr (.int 0)), some (.dk []), y7, none, none, none, none, none, none, y14, y15, y16] = some [x, some s, some (.fr (.int 1)), some (.fr (.int 1)), some (.fr (.list [(.tuple [(.int 0), (.int 0)])])), some (.fr (.int 1)), some (.dk [(.inl 0, (.int 1)), (.inl 1, (.int 1))]), none, none, none, none, none, none, none, none, none, none] := by kernel_rfl
theorem b11_q1 (x y7 y14 y15 y16 : Option Ob) (s : Ob) : ∃ r, forL lg0_law lb0_law [] [x, some s, some (.fr (.int 1)), some (.fr (.int 1)), some (.fr (.list [(.tuple [(.int 0), (.int 0)])])), some (.fr (.int 1)), some (.dk [(.inl 0, (.int 1)), (.inl 1, (.int 1))]), y7, none, none, none, none, none, none, y14, y15, y16] = some r ∧ ∃ a b c d, r = .nx [x, some s, some (.fr (.int 1)), some (.fr (.int 1)), some (.fr (.list [(.tuple [(.int 0), (.int 0)])])), some (.fr (.int 1)), some (.dk [(.inl 0, (.int 1)), (.inl 1, (.int 1))]), a, none, none, none, none, none, none, b, c, d] := ⟨_, rfl, y7, y14, y15, y16, rfl⟩
theorem b11_q0 (x y7 y14 y15 y16 : Option Ob) (s : Ob) : ∃ r, forL lg0_law lb0_law (L11_0 ++ ([])) [x, some s, some (.fr (.int 1)), some (.fr (.int 1)), some (.fr (.list [(.tuple [(.int 0), (.int 0)])])), some (.fr (.int 0)), some (.dk []), y7, none, none, none, none, none, none, y14, y15, y16] = some r ∧ ∃ a b c d, r = .nx [x, some s, some (.fr (.int 1)), some (.fr (.int 1)), some (.fr (.list [(.tuple [(.int 0), (.int 0)])])), some (.fr (.int 1)), some (.dk [(.inl 0, (.int 1)), (.inl 1, (.int 1))]), a, none, none, none, none, none, none, b, c, d] := for_part [7, 14, 15, 16] (b11_p0 x y7 y14 y15 y16 s) fun ys h => match ys, h with | [a, b, c, d], _ => b11_q1 x a b c d s
theorem b11_5 (x y7 y14 y15 y16 : Option Ob) (s : Ob) : c5_law [x, some s, some (.fr (.int 1)), some (.fr (.int 1)), some (.fr (.list [(.tuple [(.int 0), (.int 0)])])), some (.fr (.int 1)), some (.dk [(.inl 0, (.int 1)), (.inl 1, (.int 1))]), y7, none, none, none, none, none, none, y14, y15, y16] = some (.nx [x, some s, some (.fr (.int 1)), some (.fr (.int 1)), some (.fr (.list [(.tuple [(.int 0), (.int 0)])])), some (.fr (.int 1)), some (.dk [(.inl 0, (.int 1)), (.inl 1, (.int 1))]), y7, none, none, none, none, none, none, y14, y15, y16]) := by kernel_rfl
theorem b11_6 (x y7 y14 y15 y16 : Option Ob) (s : Ob) : c6_law [x, some s, some (.fr (.int 1)), some (.fr (.int 1)), some (.fr (.list [(.tuple [(.int 0), (.int 0)])])), some (.fr (.int 1)), some (.dk [(.inl 0, (.int 1)), (.inl 1, (.int 1))]), y7, none, none, none, none, none, none, y14, y15, y16] = some (.nx [x, some s, some (.fr (.int 1)), some (.fr (.int 1)), some (.fr (.list [(.tuple [(.int 0), (.int 0)])])), some (.fr (.int 1)), some (.dk [(.inl 0, (.int 1)), (.inl 1, (.int 1))]), y7, some (.fr (.int 2)), none, none, none, none, none, y14, y15, y16]) := by kernel_rfl
theorem b11_7 (x y7 y14 y15 y16 : Option Ob) (s : Ob) : c7_law [x, some s, some (.fr (.int 1)), some (.fr (.int 1)), some (.fr (.list [(.tuple [(.int 0), (.int 0)])])), some (.fr (.int 1)), some (.dk [(.inl 0, (.int 1)), (.inl 1, (.int 1))]), y7, some (.fr (.int 2)), none, none, none, none, none, y14, y15, y16] = some (.nx [x, some s, some (.fr (.int 1)), some (.fr (.int 1)), some (.fr (.list [(.tuple [(.int 0), (.int 0)])])), some (.fr (.int 1)), some (.dk [(.inl 0, (.int 1)), (.inl 1, (.int 1))]), y7, some (.fr (.int 2)), none, none, none, none, none, y14, y15, y16]) := by kernel_rfl
theorem b11_8 (x y7 y14 y15 y16 : Option Ob) (s : Ob) : c8_law [x, some s, some (.fr (.int 1)), some (.fr (.int 1)), some (.fr (.list [(.tuple [(.int 0), (.int 0)])])), some (.fr (.int 1)), some (.dk [(.inl 0, (.int 1)), (.inl 1, (.int 1))]), y7, some (.fr (.int 2)), none, none, none, none, none, y14, y15, y16] = some (.nx [x, some s, some (.fr (.int 1)), some (.fr (.int 1)), some (.fr (.list [(.tuple [(.int 0), (.int 0)])])), some (.fr (.int 1)), some (.dk [(.inl 0, (.int 1)), (.inl 1, (.int 1))]), y7, some (.fr (.int 2)), none, none, none, none, none, y14, y15, y16]) := by kernel_rfl
theorem b11 (x : Option Ob) (s : Ob) (Q : Out → Prop) (k : ∀ y2 y3 y4 y5 y6 y7 y8 y14 y15 y16 : Option Ob, WS tail9 [x, some s, y2, y3, y4, y5, y6, y7, y8, none, none, none, none, none, y14, y15, y16] Q) : WS tail2 [x, some s, some (.fr (.int 1)), some (.fr (.int 1)), none, none, none, none, none, none, none, none, none, none, none, none, none] Q := by
  refine ws_nx (b11_2 x s) ?_
  refine ws_nx (b11_3 x s) ?_
  obtain ⟨r, e, a, b, c, d, rfl⟩ := b11_q0 x none none none none s
  refine ws_nx (ρ1 := [x, some s, some (.fr (.int 1)), some (.fr (.int 1)), some (.fr (.list [(.tuple [(.int 0), (.int 0)])])), some (.fr (.int 1)), some (.dk [(.inl 0, (.int 1)), (.inl 1, (.int 1))]), a, none, none, none, none, none, none, b, c, d]) ?_ ?_
  · unfold c4_law fFor
    rw [b11_i, Option.bind_some]
    exact e
  refine ws_nx (b11_5 x a b c d s) ?_
  refine ws_nx (b11_6 x a b c d s) ?_
  refine ws_nx (b11_7 x a b c d s) ?_
  refine ws_nx (b11_8 x a b c d s) ?_
  exact k _ _ _ _ _ _ _ _ _ _
theorem b14_2 (x : Option Ob) (s : Ob) : c2_law [x, some s, some (.fr (.int 1)), some (.fr (.int 4)), none, none, none, none, none, none, none, none, none, none, none, none, none] = some (.nx [x, some s, some (.fr (.int 1)), some (.fr (.int 4)), some (.fr (.list [(.tuple [(.int 0), (.int 0)]), (.tuple [(.int 0), (.int 1)]), (.tuple [(.int 0), (.int 2)]), (.tuple [(.int 0), (.int 3)])])), some (.fr (.int 0)), some (.dk []), none, none, none, none, none, none, none, none, none, none]) := by kernel_rfl
theorem b14_3 (x : Option Ob) (s : Ob) : c3_law [x, some s, some (.fr (.int 1)), some (.fr (.int 4)), some (.fr (.list [(.tuple [(.int 0), (.int 0)]), (.tuple [(.int 0), (.int 1)]), (.tuple [(.int 0), (.int 2)]), (.tuple [(.int 0), (.int 3)])])), some (.fr (.int 0)), some (.dk []), none, none, none, none, none, none, none, none, none, none] = some (.nx [x, some s, some (.fr (.int 1)), some (.fr (.int 4)), some (.fr (.list [(.tuple [(.int 0), (.int 0)]), (.tuple [(.int 0), (.int 1)]), (.tuple [(.int 0), (.int 2)]), (.tuple [(.int 0), (.int 3)])])), some (.fr (.int 0)), some (.dk []), none, none, none, none, none, none, none, none, none, none]) := by kernel_rfl
@[irreducible] def L14_0 : List PyData := ([1, 10, 11, 12, 13, 101, 102, 103, 112, 113, 123, 1012, 1013, 1023, 1123, 10123] : List Nat).map decL
theorem b14_i (x : Option Ob) (s : Ob) : iSeq (dCall 1 F__law_all_lots (aCons (o2 mulO (rdV 2) (rdV 3)) aNil)) [x, some s, some (.fr (.int 1)), some (.fr (.int 4)), some (.fr (.list [(.tuple [(.int 0), (.int 0)]), (.tuple [(.int 0), (.int 1)]), (.tuple [(.int 0), (.int 2)]), (.tuple [(.int 0), (.int 3)])])), some (.fr (.int 0)), some (.dk []), none, none, none, none, none, none, none, none, none, none] = some (L14_0 ++ ([])) := by kernel_rfl
theorem b14_p0 (x y7 y14 y15 y16 : Option Ob) (s : Ob) : stW [7, 14, 15, 16] lg0_law lb0_law L14_0 [x, some s, some (.fr (.int 1)), some (.fr (.int 4)), some (.fr (.list [(.tuple [(.int 0), (.int 0)]), (.tuple [(.int 0), (.int 1)]), (.tuple [(.int 0), (.int 2)]), (.tuple [(.int 0), (.int 3)])])), some (.fr (.int 0)), some (.dk []), y7, none, none, none, none, none, none, y14, y15, y16] = some [x, some s, some (.fr (.int 1)), some (.fr (.int 4)), some (.fr (.list [(.tuple [(.int 0), (.int 0)]), (.tuple [(.int 0), (.int 1)]), (.tuple [(.int 0), (.int 2)]), (.tuple [(.int 0), (.int 3)])])), some (.fr (.int 15)), some (.dk [(.inl 0, (.int 1)), (.inl 1, (.int 4))]), none, none, none, none, none, none, none, none, none, none] := by kernel_rfl
theorem b14_q1 (x y7 y14 y15 y16 : Option Ob) (s : Ob) : ∃ r, forL lg0_law lb0_law [] [x, some s, some (.fr (.int 1)), some (.fr (.int 4)), some (.fr (.list [(.tuple [(.int 0), (.int 0)]), (.tuple [(.int 0), (.int 1)]), (.tuple [(.int 0), (.int 2)]), (.tuple [(.int 0), (.int 3)])])), some (.fr (.int 15)), some (.dk [(.inl 0, (.int 1)), (.inl 1, (.int 4))]), y7, none, none, none, none, none, none, y14, y15, y16] = some r ∧ ∃ a b c d, r = .nx [x, some s, some (.fr (.int 1)), some (.fr (.int 4)), some (.fr (.list [(.tuple [(.int 0), (.int 0)]), (.tuple [(.int 0), (.int 1)]), (.tuple [(.int 0), (.int 2)]), (.tuple [(.int 0), (.int 3)])])), some (.fr (.int 15)), some (.dk [(.inl 0, (.int 1)), (.inl 1, (.int 4))]), a, none, none, none, none, none, none, b, c, d] := ⟨_, rfl, y7, y14, y15, y16, rfl⟩
theorem b14_q0 (x y7 y14 y15 y16 : Option Ob) (s : Ob) : ∃ r, forL lg0_law lb0_law (L14_0 ++ ([])) [x, some s, some (.fr (.int 1)), some (.fr (.int 4)), some (.fr (.list [(.tuple [(.int 0), (.int 0)]), (.tuple [(.int 0), (.int 1)]), (.tuple [(.int 0), (.int 2)]), (.tuple [(.int 0), (.int 3)])])), some (.fr (.int 0)), some (.dk []), y7, none, none, none, none, none, none, y14, y15, y16] = some r ∧ ∃ a b c d, r = .nx [x, some s, some (.fr (.int 1)), some (.fr (.int 4)), some (.fr (.list [(.tuple [(.int 0), (.int 0)]), (.tuple [(.int 0), (.int 1)]), (.tuple [(.int 0), (.int 2)]), (.tuple [(.int 0), (.int 3)])])), some (.fr (.int 15)), some (.dk [(.inl 0, (.int 1)), (.inl 1, (.int 4))]), a, none, none, none, none, none, none, b, c, d] := for_part [7, 14, 15, 16] (b14_p0 x y7 y14 y15 y16 s) fun ys h => match ys, h with | [a, b, c, d], _ => b14_q1 x a b c d s
theorem b14_5 (x y7 y14 y15 y16 : Option Ob) (s : Ob) : c5_law [x, some s, some (.fr (.int 1)), some (.fr (.int 4)), some (.fr (.list [(.tuple [(.int 0), (.int 0)]), (.tuple [(.int 0), (.int 1)]), (.tuple [(.int 0), (.int 2)]), (.tuple [(.int 0), (.int 3)])])), some (.fr (.int 15)), some (.dk [(.inl 0, (.int 1)), (.inl 1, (.int 4))]), y7, none, none, none, none, none, none, y14, y15, y16] = some (.nx [x, some s, some (.fr (.int 1)), some (.fr (.int 4)), some (.fr (.list [(.tuple [(.int 0), (.int 0)]), (.tuple [(.int 0), (.int 1)]), (.tuple [(.int 0), (.int 2)]), (.tuple [(.int 0), (.int 3)])])), some (.fr (.int 15)), some (.dk [(.inl 0, (.int 1)), (.inl 1, (.int 4))]), y7, none, none, none, none, none, none, y14, y15, y16]) := by kernel_rfl
theorem b14_6 (x y7 y14 y15 y16 : Option Ob) (s : Ob) : c6_law [x, some s, some (.fr (.int 1)), some (.fr (.int 4)), some (.fr (.list [(.tuple [(.int 0), (.int 0)]), (.tuple [(.int 0), (.int 1)]), (.tuple [(.int 0), (.int 2)]), (.tuple [(.int 0), (.int 3)])])), some (.fr (.int 15)), some (.dk [(.inl 0, (.int 1)), (.inl 1, (.int 4))]), y7, none, none, none, none, none, none, y14, y15, y16] = some (.nx [x, some s, some (.fr (.int 1)), some (.fr (.int 4)), some (.fr (.list [(.tuple [(.int 0), (.int 0)]), (.tuple [(.int 0), (.int 1)]), (.tuple [(.int 0), (.int 2)]), (.tuple [(.int 0), (.int 3)])])), some (.fr (.int 15)), some (.dk [(.inl 0, (.int 1)), (.inl 1, (.int 4))]), y7, some (.fr (.int 5)), none, none, none, none, none, y14, y15, y16]) := by kernel_rfl
theorem b14_7 (x y7 y14 y15 y16 : Option Ob) (s : Ob) : c7_law [x, some s, some (.fr (.int 1)), some (.fr (.int 4)), some (.fr (.list [(.tuple [(.int 0), (.int 0)]), (.tuple [(.int 0), (.int 1)]), (.tuple [(.int 0), (.int 2)]), (.tuple [(.int 0), (.int 3)])])), some (.fr (.int 15)), some (.dk [(.inl 0, (.int 1)), (.inl 1, (.int 4))]), y7, some (.fr (.int 5)), none, none, none, none, none, y14, y15, y16] = some (.nx [x, some s, some (.fr (.int 1)), some (.fr (.int 4)), some (.fr (.list [(.tuple [(.int 0), (.int 0)]), (.tuple [(.int 0), (.int 1)]), (.tuple [(.int 0), (.int 2)]), (.tuple [(.int 0), (.int 3)])])), some (.fr (.int 15)), some (.dk [(.inl 0, (.int 1)), (.inl 1, (.int 4))]), y7, some (.fr (.int 5)), none, none, none, none, none, y14, y15, y16]) := by kernel_rfl
theorem b14_8 (x y7 y14 y15 y16 : Option Ob) (s : Ob) : c8_law [x, some s, some (.fr (.int 1)), some (.fr (.int 4)), some (.fr (.list [(.tuple [(.int 0), (.int 0)]), (.tuple [(.int 0), (.int 1)]), (.tuple [(.int 0), (.int 2)]), (.tuple [(.int 0), (.int 3)])])), some (.fr (.int 15)), some (.dk [(.inl 0, (.int 1)), (.inl 1, (.int 4))]), y7, some (.fr (.int 5)), none, none, none, none, none, y14, y15, y16] = some (.nx [x, some s, some (.fr (.int 1)), some (.fr (.int 4)), some (.fr (.list [(.tuple [(.int 0), (.int 0)]), (.tuple [(.int 0), (.int 1)]), (.tuple [(.int 0), (.int 2)]), (.tuple [(.int 0), (.int 3)])])), some (.fr (.int 15)), some (.dk [(.inl 0, (.int 1)), (.inl 1, (.int 4))]), y7, some (.fr (.int 5)), none, none, none, none, none, y14, y15, y16]) := by kernel_rfl
theorem b14 (x : Option Ob) (s : Ob) (Q : Out → Prop) (k : ∀ y2 y3 y4 y5 y6 y7 y8 y14 y15 y16 : Option Ob, WS tail9 [x, some s, y2, y3, y4, y5, y6, y7, y8, none, none, none, none, none, y14, y15, y16] Q) : WS tail2 [x, some s, some (.fr (.int 1)), some (.fr (.int 4)), none, none, none, none, none, none, none, none, none, none, none, none, none] Q := by
  refine ws_nx (b14_2 x s) ?_
  refine ws_nx (b14_3 x s) ?_
  obtain ⟨r, e, a, b, c, d, rfl⟩ := b14_q0 x none none none none s
  refine ws_nx (ρ1 := [x, some s, some (.fr (.int 1)), some (.fr (.int 4)), some (.fr (.list [(.tuple [(.int 0), (.int 0)]), (.tuple [(.int 0), (.int 1)]), (.tuple [(.int 0), (.int 2)]), (.tuple [(.int 0), (.int 3)])])), some (.fr (.int 15)), some (.dk [(.inl 0, (.int 1)), (.inl 1, (.int 4))]), a, none, none, none, none, none, none, b, c, d]) ?_ ?_
  · unfold c4_law fFor
    rw [b14_i, Option.bind_some]
    exact e
  refine ws_nx (b14_5 x a b c d s) ?_
  refine ws_nx (b14_6 x a b c d s) ?_
  refine ws_nx (b14_7 x a b c d s) ?_
  refine ws_nx (b14_8 x a b c d s) ?_
  exact k _ _ _ _ _ _ _ _ _ _
theorem b22_2 (x : Option Ob) (s : Ob) : c2_law [x, some s, some (.fr (.int 2)), some (.fr (.int 2)), none, none, none, none, none, none, none, none, none, none, none, none, none] = some (.nx [x, some s, some (.fr (.int 2)), some (.fr (.int 2)), some (.fr (.list [(.tuple [(.int 0), (.int 0)]), (.tuple [(.int 0), (.int 1)]), (.tuple [(.int 1), (.int 0)]), (.tuple [(.int 1), (.int 1)])])), some (.fr (.int 0)), some (.dk []), none, none, none, none, none, none, none, none, none, none]) := by kernel_rfl
theorem b22_3 (x : Option Ob) (s : Ob) : c3_law [x, some s, some (.fr (.int 2)), some (.fr (.int 2)), some (.fr (.list [(.tuple [(.int 0), (.int 0)]), (.tuple [(.int 0), (.int 1)]), (.tuple [(.int 1), (.int 0)]), (.tuple [(.int 1), (.int 1)])])), some (.fr (.int 0)), some (.dk []), none, none, none, none, none, none, none, none, none, none] = some (.nx [x, some s, some (.fr (.int 2)), some (.fr (.int 2)), some (.fr (.list [(.tuple [(.int 0), (.int 0)]), (.tuple [(.int 0), (.int 1)]), (.tuple [(.int 1), (.int 0)]), (.tuple [(.int 1), (.int 1)])])), some (.fr (.int 0)), some (.dk []), none, none, none, none, none, none, none, none, none, none]) := by kernel_rfl
@[irreducible] def L22_0 : List PyData := ([1, 10, 11, 12, 13, 101, 102, 103, 112, 113, 123, 1012, 1013, 1023, 1123, 10123] : List Nat).map decL
theorem b22_i (x : Option Ob) (s : Ob) : iSeq (dCall 1 F__law_all_lots (aCons (o2 mulO (rdV 2) (rdV 3)) aNil)) [x, some s, some (.fr (.int 2)), some (.fr (.int 2)), some (.fr (.list [(.tuple [(.int 0), (.int 0)]), (.tuple [(.int 0), (.int 1)]), (.tuple [(.int 1), (.int 0)]), (.tuple [(.int 1), (.int 1)])])), some (.fr (.int 0)), some (.dk []), none, none, none, none, none, none, none, none, none, none] = some (L22_0 ++ ([])) := by kernel_rfl
theorem b22_p0 (x y7 y14 y15 y16 : Option Ob) (s : Ob) : stW [7, 14, 15, 16] lg0_law lb0_law L22_0 [x, some s, some (.fr (.int 2)), some (.fr (.int 2)), some (.fr (.list [(.tuple [(.int 0), (.int 0)]), (.tuple [(.int 0), (.int 1)]), (.tuple [(.int 1), (.int 0)]), (.tuple [(.int 1), (.int 1)])])), some (.fr (.int 0)), some (.dk []), y7, none, none, none, none, none, none, y14, y15, y16] = some [x, some s, some (.fr (.int 2)), some (.fr (.int 2)), some (.fr (.list [(.tuple [(.int 0), (.int 0)]), (.tuple [(.int 0), (.int 1)]), (.tuple [(.int 1), (.int 0)]), (.tuple [(.int 1), (.int 1)])])), some (.fr (.int 11)), some (.dk [(.inl 0, (.int 1)), (.inl 1, (.int 4)), (.inl 2, (.int 2))]), none, none, none, none, none, none, none, none, none, none] := by kernel_rfl
theorem b22_q1 (x y7 y14 y15 y16 : Option Ob) (s : Ob) : ∃ r, forL lg0_law lb0_law [] [x, some s, some (.fr (.int 2)), some (.fr (.int 2)), some (.fr (.list [(.tuple [(.int 0), (.int 0)]), (.tuple [(.int 0), (.int 1)]), (.tuple [(.int 1), (.int 0)]), (.tuple [(.int 1), (.int 1)])])), some (.fr (.int 11)), some (.dk [(.inl 0, (.int 1)), (.inl 1, (.int 4)), (.inl 2, (.int 2))]), y7, none, none, none, none, none, none, y14, y15, y16] = some r ∧ ∃ a b c d, r = .nx [x, some s, some (.fr (.int 2)), some (.fr (.int 2)), some (.fr (.list [(.tuple [(.int 0), (.int 0)]), (.tuple [(.int 0), (.int 1)]), (.tuple [(.int 1), (.int 0)]), (.tuple [(.int 1), (.int 1)])])), some (.fr (.int 11)), some (.dk [(.inl 0, (.int 1)), (.inl 1, (.int 4)), (.inl 2, (.int 2))]), a, none, none, none, none, none, none, b, c, d] := ⟨_, rfl, y7, y14, y15, y16, rfl⟩
theorem b22_q0 (x y7 y14 y15 y16 : Option Ob) (s : Ob) : ∃ r, forL lg0_law lb0_law (L22_0 ++ ([])) [x, some s, some (.fr (.int 2)), some (.fr (.int 2)), some (.fr (.list [(.tuple [(.int 0), (.int 0)]), (.tuple [(.int 0), (.int 1)]), (.tuple [(.int 1), (.int 0)]), (.tuple [(.int 1), (.int 1)])])), some (.fr (.int 0)), some (.dk []), y7, none, none, none, none, none, none, y14, y15, y16] = some r ∧ ∃ a b c d, r = .nx [x, some s, some (.fr (.int 2)), some (.fr (.int 2)), some (.fr (.list [(.tuple [(.int 0), (.int 0)]), (.tuple [(.int 0), (.int 1)]), (.tuple [(.int 1), (.int 0)]), (.tuple [(.int 1), (.int 1)])])), some (.fr (.int 11)), some (.dk [(.inl 0, (.int 1)), (.inl 1, (.int 4)), (.inl 2, (.int 2))]), a, none, none, none, none, none, none, b, c, d] := for_part [7, 14, 15, 16] (b22_p0 x y7 y14 y15 y16 s) fun ys h => match ys, h with | [a, b, c, d], _ => b22_q1 x a b c d s
theorem b22_5 (x y7 y14 y15 y16 : Option Ob) (s : Ob) : c5_law [x, some s, some (.fr (.int 2)), some (.fr (.int 2)), some (.fr (.list [(.tuple [(.int 0), (.int 0)]), (.tuple [(.int 0), (.int 1)]), (.tuple [(.int 1), (.int 0)]), (.tuple [(.int 1), (.int 1)])])), some (.fr (.int 11)), some (.dk [(.inl 0, (.int 1)), (.inl 1, (.int 4)), (.inl 2, (.int 2))]), y7, none, none, none, none, none, none, y14, y15, y16] = some (.nx [x, some s, some (.fr (.int 2)), some (.fr (.int 2)), some (.fr (.list [(.tuple [(.int 0), (.int 0)]), (.tuple [(.int 0), (.int 1)]), (.tuple [(.int 1), (.int 0)]), (.tuple [(.int 1), (.int 1)])])), some (.fr (.int 11)), some (.dk [(.inl 0, (.int 1)), (.inl 1, (.int 4)), (.inl 2, (.int 2))]), y7, none, none, none, none, none, none, y14, y15, y16]) := by kernel_rfl
theorem b22_6 (x y7 y14 y15 y16 : Option Ob) (s : Ob) : c6_law [x, some s, some (.fr (.int 2)), some (.fr (.int 2)), some (.fr (.list [(.tuple [(.int 0), (.int 0)]), (.tuple [(.int 0), (.int 1)]), (.tuple [(.int 1), (.int 0)]), (.tuple [(.int 1), (.int 1)])])), some (.fr (.int 11)), some (.dk [(.inl 0, (.int 1)), (.inl 1, (.int 4)), (.inl 2, (.int 2))]), y7, none, none, none, none, none, none, y14, y15, y16] = some (.nx [x, some s, some (.fr (.int 2)), some (.fr (.int 2)), some (.fr (.list [(.tuple [(.int 0), (.int 0)]), (.tuple [(.int 0), (.int 1)]), (.tuple [(.int 1), (.int 0)]), (.tuple [(.int 1), (.int 1)])])), some (.fr (.int 11)), some (.dk [(.inl 0, (.int 1)), (.inl 1, (.int 4)), (.inl 2, (.int 2))]), y7, some (.fr (.int 5)), none, none, none, none, none, y14, y15, y16]) := by kernel_rfl
theorem b22_7 (x y7 y14 y15 y16 : Option Ob) (s : Ob) : c7_law [x, some s, some (.fr (.int 2)), some (.fr (.int 2)), some (.fr (.list [(.tuple [(.int 0), (.int 0)]), (.tuple [(.int 0), (.int 1)]), (.tuple [(.int 1), (.int 0)]), (.tuple [(.int 1), (.int 1)])])), some (.fr (.int 11)), some (.dk [(.inl 0, (.int 1)), (.inl 1, (.int 4)), (.inl 2, (.int 2))]), y7, some (.fr (.int 5)), none, none, none, none, none, y14, y15, y16] = some (.nx [x, some s, some (.fr (.int 2)), some (.fr (.int 2)), some (.fr (.list [(.tuple [(.int 0), (.int 0)]), (.tuple [(.int 0), (.int 1)]), (.tuple [(.int 1), (.int 0)]), (.tuple [(.int 1), (.int 1)])])), some (.fr (.int 11)), some (.dk [(.inl 0, (.int 1)), (.inl 1, (.int 4)), (.inl 2, (.int 2))]), y7, some (.fr (.int 5)), none, none, none, none, none, y14, y15, y16]) := by kernel_rfl
theorem b22_8 (x y7 y14 y15 y16 : Option Ob) (s : Ob) : c8_law [x, some s, some (.fr (.int 2)), some (.fr (.int 2)), some (.fr (.list [(.tuple [(.int 0), (.int 0)]), (.tuple [(.int 0), (.int 1)]), (.tuple [(.int 1), (.int 0)]), (.tuple [(.int 1), (.int 1)])])), some (.fr (.int 11)), some (.dk [(.inl 0, (.int 1)), (.inl 1, (.int 4)), (.inl 2, (.int 2))]), y7, some (.fr (.int 5)), none, none, none, none, none, y14, y15, y16] = some (.nx [x, some s, some (.fr (.int 2)), some (.fr (.int 2)), some (.fr (.list [(.tuple [(.int 0), (.int 0)]), (.tuple [(.int 0), (.int 1)]), (.tuple [(.int 1), (.int 0)]), (.tuple [(.int 1), (.int 1)])])), some (.fr (.int 11)), some (.dk [(.inl 0, (.int 1)), (.inl 1, (.int 4)), (.inl 2, (.int 2))]), y7, some (.fr (.int 5)), none, none, none, none, none, y14, y15, y16]) := by kernel_rfl
theorem b22 (x : Option Ob) (s : Ob) (Q : Out → Prop) (k : ∀ y2 y3 y4 y5 y6 y7 y8 y14 y15 y16 : Option Ob, WS tail9 [x, some s, y2, y3, y4, y5, y6, y7, y8, none, none, none, none, none, y14, y15, y16] Q) : WS tail2 [x, some s, some (.fr (.int 2)), some (.fr (.int 2)), none, none, none, none, none, none, none, none, none, none, none, none, none] Q := by
  refine ws_nx (b22_2 x s) ?_
  refine ws_nx (b22_3 x s) ?_
  obtain ⟨r, e, a, b, c, d, rfl⟩ := b22_q0 x none none none none s
  refine ws_nx (ρ1 := [x, some s, some (.fr (.int 2)), some (.fr (.int 2)), some (.fr (.list [(.tuple [(.int 0), (.int 0)]), (.tuple [(.int 0), (.int 1)]), (.tuple [(.int 1), (.int 0)]), (.tuple [(.int 1), (.int 1)])])), some (.fr (.int 11)), some (.dk [(.inl 0, (.int 1)), (.inl 1, (.int 4)), (.inl 2, (.int 2))]), a, none, none, none, none, none, none, b, c, d]) ?_ ?_
  · unfold c4_law fFor
    rw [b22_i, Option.bind_some]
    exact e
  refine ws_nx (b22_5 x a b c d s) ?_
  refine ws_nx (b22_6 x a b c d s) ?_
  refine ws_nx (b22_7 x a b c d s) ?_
  refine ws_nx (b22_8 x a b c d s) ?_
  exact k _ _ _ _ _ _ _ _ _ _
theorem b23_2 (x : Option Ob) (s : Ob) : c2_law [x, some s, some (.fr (.int 2)), some (.fr (.int 3)), none, none, none, none, none, none, none, none, none, none, none, none, none] = some (.nx [x, some s, some (.fr (.int 2)), some (.fr (.int 3)), some (.fr (.list [(.tuple [(.int 0), (.int 0)]), (.tuple [(.int 0), (.int 1)]), (.tuple [(.int 0), (.int 2)]), (.tuple [(.int 1), (.int 0)]), (.tuple [(.int 1), (.int 1)]), (.tuple [(.int 1), (.int 2)])])), some (.fr (.int 0)), some (.dk []), none, none, none, none, none, none, none, none, none, none]) := by kernel_rfl
theorem b23_3 (x : Option Ob) (s : Ob) : c3_law [x, some s, some (.fr (.int 2)), some (.fr (.int 3)), some (.fr (.list [(.tuple [(.int 0), (.int 0)]), (.tuple [(.int 0), (.int 1)]), (.tuple [(.int 0), (.int 2)]), (.tuple [(.int 1), (.int 0)]), (.tuple [(.int 1), (.int 1)]), (.tuple [(.int 1), (.int 2)])])), some (.fr (.int 0)), some (.dk []), none, none, none, none, none, none, none, none, none, none] = some (.nx [x, some s, some (.fr (.int 2)), some (.fr (.int 3)), some (.fr (.list [(.tuple [(.int 0), (.int 0)]), (.tuple [(.int 0), (.int 1)]), (.tuple [(.int 0), (.int 2)]), (.tuple [(.int 1), (.int 0)]), (.tuple [(.int 1), (.int 1)]), (.tuple [(.int 1), (.int 2)])])), some (.fr (.int 0)), some (.dk []), none, none, none, none, none, none, none, none, none, none]) := by kernel_rfl
@[irreducible] def L23_0 : List PyData := ([1, 10, 11, 12, 13, 14, 15, 101, 102, 103, 104, 105, 112, 113, 114, 115, 123, 124, 125, 134, 135, 145, 1012, 1013, 1014, 1015, 1023, 1024, 1025, 1034, 1035, 1045, 1123, 1124, 1125, 1134, 1135, 1145, 1234, 1235, 1245, 1345, 10123, 10124, 10125, 10134, 10135, 10145, 10234, 10235, 10245, 10345, 11234, 11235, 11245, 11345, 12345, 101234, 101235, 101245, 101345, 102345, 112345, 1012345] : List Nat).map decL
theorem b23_i (x : Option Ob) (s : Ob) : iSeq (dCall 1 F__law_all_lots (aCons (o2 mulO (rdV 2) (rdV 3)) aNil)) [x, some s, some (.fr (.int 2)), some (.fr (.int 3)), some (.fr (.list [(.tuple [(.int 0), (.int 0)]), (.tuple [(.int 0), (.int 1)]), (.tuple [(.int 0), (.int 2)]), (.tuple [(.int 1), (.int 0)]), (.tuple [(.int 1), (.int 1)]), (.tuple [(.int 1), (.int 2)])])), some (.fr (.int 0)), some (.dk []), none, none, none, none, none, none, none, none, none, none] = some (L23_0 ++ ([])) := by kernel_rfl
theorem b23_p0 (x y7 y14 y15 y16 : Option Ob) (s : Ob) : stW [7, 14, 15, 16] lg0_law lb0_law L23_0 [x, some s, some (.fr (.int 2)), some (.fr (.int 3)), some (.fr (.list [(.tuple [(.int 0), (.int 0)]), (.tuple [(.int 0), (.int 1)]), (.tuple [(.int 0), (.int 2)]), (.tuple [(.int 1), (.int 0)]), (.tuple [(.int 1), (.int 1)]), (.tuple [(.int 1), (.int 2)])])), some (.fr (.int 0)), some (.dk []), y7, none, none, none, none, none, none, y14, y15, y16] = some [x, some s, some (.fr (.int 2)), some (.fr (.int 3)), some (.fr (.list [(.tuple [(.int 0), (.int 0)]), (.tuple [(.int 0), (.int 1)]), (.tuple [(.int 0), (.int 2)]), (.tuple [(.int 1), (.int 0)]), (.tuple [(.int 1), (.int 1)]), (.tuple [(.int 1), (.int 2)])])), some (.fr (.int 51)), some (.dk [(.inl 0, (.int 1)), (.inl 1, (.int 6)), (.inl 2, (.int 6))]), none, none, none, none, none, none, none, none, none, none] := by kernel_rfl
theorem b23_q1 (x y7 y14 y15 y16 : Option Ob) (s : Ob) : ∃ r, forL lg0_law lb0_law [] [x, some s, some (.fr (.int 2)), some (.fr (.int 3)), some (.fr (.list [(.tuple [(.int 0), (.int 0)]), (.tuple [(.int 0), (.int 1)]), (.tuple [(.int 0), (.int 2)]), (.tuple [(.int 1), (.int 0)]), (.tuple [(.int 1), (.int 1)]), (.tuple [(.int 1), (.int 2)])])), some (.fr (.int 51)), some (.dk [(.inl 0, (.int 1)), (.inl 1, (.int 6)), (.inl 2, (.int 6))]), y7, none, none, none, none, none, none, y14, y15, y16] = some r ∧ ∃ a b c d, r = .nx [x, some s, some (.fr (.int 2)), some (.fr (.int 3)), some (.fr (.list [(.tuple [(.int 0), (.int 0)]), (.tuple [(.int 0), (.int 1)]), (.tuple [(.int 0), (.int 2)]), (.tuple [(.int 1), (.int 0)]), (.tuple [(.int 1), (.int 1)]), (.tuple [(.int 1), (.int 2)])])), some (.fr (.int 51)), some (.dk [(.inl 0, (.int 1)), (.inl 1, (.int 6)), (.inl 2, (.int 6))]), a, none, none, none, none, none, none, b, c, d] := ⟨_, rfl, y7, y14, y15, y16, rfl⟩
theorem b23_q0 (x y7 y14 y15 y16 : Option Ob) (s : Ob) : ∃ r, forL lg0_law lb0_law (L23_0 ++ ([])) [x, some s, some (.fr (.int 2)), some (.fr (.int 3)), some (.fr (.list [(.tuple [(.int 0), (.int 0)]), (.tuple [(.int 0), (.int 1)]), (.tuple [(.int 0), (.int 2)]), (.tuple [(.int 1), (.int 0)]), (.tuple [(.int 1), (.int 1)]), (.tuple [(.int 1), (.int 2)])])), some (.fr (.int 0)), some (.dk []), y7, none, none, none, none, none, none, y14, y15, y16] = some r ∧ ∃ a b c d, r = .nx [x, some s, some (.fr (.int 2)), some (.fr (.int 3)), some (.fr (.list [(.tuple [(.int 0), (.int 0)]), (.tuple [(.int 0), (.int 1)]), (.tuple [(.int 0), (.int 2)]), (.tuple [(.int 1), (.int 0)]), (.tuple [(.int 1), (.int 1)]), (.tuple [(.int 1), (.int 2)])])), some (.fr (.int 51)), some (.dk [(.inl 0, (.int 1)), (.inl 1, (.int 6)), (.inl 2, (.int 6))]), a, none, none, none, none, none, none, b, c, d] := for_part [7, 14, 15, 16] (b23_p0 x y7 y14 y15 y16 s) fun ys h => match ys, h with | [a, b, c, d], _ => b23_q1 x a b c d s
theorem b23_5 (x y7 y14 y15 y16 : Option Ob) (s : Ob) : c5_law [x, some s, some (.fr (.int 2)), some (.fr (.int 3)), some (.fr (.list [(.tuple [(.int 0), (.int 0)]), (.tuple [(.int 0), (.int 1)]), (.tuple [(.int 0), (.int 2)]), (.tuple [(.int 1), (.int 0)]), (.tuple [(.int 1), (.int 1)]), (.tuple [(.int 1), (.int 2)])])), some (.fr (.int 51)), some (.dk [(.inl 0, (.int 1)), (.inl 1, (.int 6)), (.inl 2, (.int 6))]), y7, none, none, none, none, none, none, y14, y15, y16] = some (.nx [x, some s, some (.fr (.int 2)), some (.fr (.int 3)), some (.fr (.list [(.tuple [(.int 0), (.int 0)]), (.tuple [(.int 0), (.int 1)]), (.tuple [(.int 0), (.int 2)]), (.tuple [(.int 1), (.int 0)]), (.tuple [(.int 1), (.int 1)]), (.tuple [(.int 1), (.int 2)])])), some (.fr (.int 51)), some (.dk [(.inl 0, (.int 1)), (.inl 1, (.int 6)), (.inl 2, (.int 6))]), y7, none, none, none, none, none, none, y14, y15, y16]) := by kernel_rfl
theorem b23_6 (x y7 y14 y15 y16 : Option Ob) (s : Ob) : c6_law [x, some s, some (.fr (.int 2)), some (.fr (.int 3)), some (.fr (.list [(.tuple [(.int 0), (.int 0)]), (.tuple [(.int 0), (.int 1)]), (.tuple [(.int 0), (.int 2)]), (.tuple [(.int 1), (.int 0)]), (.tuple [(.int 1), (.int 1)]), (.tuple [(.int 1), (.int 2)])])), some (.fr (.int 51)), some (.dk [(.inl 0, (.int 1)), (.inl 1, (.int 6)), (.inl 2, (.int 6))]), y7, none, none, none, none, none, none, y14, y15, y16] = some (.nx [x, some s, some (.fr (.int 2)), some (.fr (.int 3)), some (.fr (.list [(.tuple [(.int 0), (.int 0)]), (.tuple [(.int 0), (.int 1)]), (.tuple [(.int 0), (.int 2)]), (.tuple [(.int 1), (.int 0)]), (.tuple [(.int 1), (.int 1)]), (.tuple [(.int 1), (.int 2)])])), some (.fr (.int 51)), some (.dk [(.inl 0, (.int 1)), (.inl 1, (.int 6)), (.inl 2, (.int 6))]), y7, some (.fr (.int 7)), none, none, none, none, none, y14, y15, y16]) := by kernel_rfl
theorem b23_7 (x y7 y14 y15 y16 : Option Ob) (s : Ob) : c7_law [x, some s, some (.fr (.int 2)), some (.fr (.int 3)), some (.fr (.list [(.tuple [(.int 0), (.int 0)]), (.tuple [(.int 0), (.int 1)]), (.tuple [(.int 0), (.int 2)]), (.tuple [(.int 1), (.int 0)]), (.tuple [(.int 1), (.int 1)]), (.tuple [(.int 1), (.int 2)])])), some (.fr (.int 51)), some (.dk [(.inl 0, (.int 1)), (.inl 1, (.int 6)), (.inl 2, (.int 6))]), y7, some (.fr (.int 7)), none, none, none, none, none, y14, y15, y16] = some (.nx [x, some s, some (.fr (.int 2)), some (.fr (.int 3)), some (.fr (.list [(.tuple [(.int 0), (.int 0)]), (.tuple [(.int 0), (.int 1)]), (.tuple [(.int 0), (.int 2)]), (.tuple [(.int 1), (.int 0)]), (.tuple [(.int 1), (.int 1)]), (.tuple [(.int 1), (.int 2)])])), some (.fr (.int 51)), some (.dk [(.inl 0, (.int 1)), (.inl 1, (.int 6)), (.inl 2, (.int 6))]), y7, some (.fr (.int 7)), none, none, none, none, none, y14, y15, y16]) := by kernel_rfl
theorem b23_8 (x y7 y14 y15 y16 : Option Ob) (s : Ob) : c8_law [x, some s, some (.fr (.int 2)), some (.fr (.int 3)), some (.fr (.list [(.tuple [(.int 0), (.int 0)]), (.tuple [(.int 0), (.int 1)]), (.tuple [(.int 0), (.int 2)]), (.tuple [(.int 1), (.int 0)]), (.tuple [(.int 1), (.int 1)]), (.tuple [(.int 1), (.int 2)])])), some (.fr (.int 51)), some (.dk [(.inl 0, (.int 1)), (.inl 1, (.int 6)), (.inl 2, (.int 6))]), y7, some (.fr (.int 7)), none, none, none, none, none, y14, y15, y16] = some (.nx [x, some s, some (.fr (.int 2)), some (.fr (.int 3)), some (.fr (.list [(.tuple [(.int 0), (.int 0)]), (.tuple [(.int 0), (.int 1)]), (.tuple [(.int 0), (.int 2)]), (.tuple [(.int 1), (.int 0)]), (.tuple [(.int 1), (.int 1)]), (.tuple [(.int 1), (.int 2)])])), some (.fr (.int 51)), some (.dk [(.inl 0, (.int 1)), (.inl 1, (.int 6)), (.inl 2, (.int 6))]), y7, some (.fr (.int 7)), none, none, none, none, none, y14, y15, y16]) := by kernel_rfl
theorem b23 (x : Option Ob) (s : Ob) (Q : Out → Prop) (k : ∀ y2 y3 y4 y5 y6 y7 y8 y14 y15 y16 : Option Ob, WS tail9 [x, some s, y2, y3, y4, y5, y6, y7, y8, none, none, none, none, none, y14, y15, y16] Q) : WS tail2 [x, some s, some (.fr (.int 2)), some (.fr (.int 3)), none, none, none, none, none, none, none, none, none, none, none, none, none] Q := by
  refine ws_nx (b23_2 x s) ?_
  refine ws_nx (b23_3 x s) ?_
  obtain ⟨r, e, a, b, c, d, rfl⟩ := b23_q0 x none none none none s
  refine ws_nx (ρ1 := [x, some s, some (.fr (.int 2)), some (.fr (.int 3)), some (.fr (.list [(.tuple [(.int 0), (.int 0)]), (.tuple [(.int 0), (.int 1)]), (.tuple [(.int 0), (.int 2)]), (.tuple [(.int 1), (.int 0)]), (.tuple [(.int 1), (.int 1)]), (.tuple [(.int 1), (.int 2)])])), some (.fr (.int 51)), some (.dk [(.inl 0, (.int 1)), (.inl 1, (.int 6)), (.inl 2, (.int 6))]), a, none, none, none, none, none, none, b, c, d]) ?_ ?_
  · unfold c4_law fFor
    rw [b23_i, Option.bind_some]
    exact e
  refine ws_nx (b23_5 x a b c d s) ?_
  refine ws_nx (b23_6 x a b c d s) ?_
  refine ws_nx (b23_7 x a b c d s) ?_
  refine ws_nx (b23_8 x a b c d s) ?_
  exact k _ _ _ _ _ _ _ _ _ _
theorem b32_2 (x : Option Ob) (s : Ob) : c2_law [x, some s, some (.fr (.int 3)), some (.fr (.int 2)), none, none, none, none, none, none, none, none, none, none, none, none, none] = some (.nx [x, some s, some (.fr (.int 3)), some (.fr (.int 2)), some (.fr (.list [(.tuple [(.int 0), (.int 0)]), (.tuple [(.int 0), (.int 1)]), (.tuple [(.int 1), (.int 0)]), (.tuple [(.int 1), (.int 1)]), (.tuple [(.int 2), (.int 0)]), (.tuple [(.int 2), (.int 1)])])), some (.fr (.int 0)), some (.dk []), none, none, none, none, none, none, none, none, none, none]) := by kernel_rfl
theorem b32_3 (x : Option Ob) (s : Ob) : c3_law [x, some s, some (.fr (.int 3)), some (.fr (.int 2)), some (.fr (.list [(.tuple [(.int 0), (.int 0)]), (.tuple [(.int 0), (.int 1)]), (.tuple [(.int 1), (.int 0)]), (.tuple [(.int 1), (.int 1)]), (.tuple [(.int 2), (.int 0)]), (.tuple [(.int 2), (.int 1)])])), some (.fr (.int 0)), some (.dk []), none, none, none, none, none, none, none, none, none, none] = some (.nx [x, some s, some (.fr (.int 3)), some (.fr (.int 2)), some (.fr (.list [(.tuple [(.int 0), (.int 0)]), (.tuple [(.int 0), (.int 1)]), (.tuple [(.int 1), (.int 0)]), (.tuple [(.int 1), (.int 1)]), (.tuple [(.int 2), (.int 0)]), (.tuple [(.int 2), (.int 1)])])), some (.fr (.int 0)), some (.dk []), none, none, none, none, none, none, none, none, none, none]) := by kernel_rfl
@[irreducible] def L32_0 : List PyData := ([1, 10, 11, 12, 13, 14, 15, 101, 102, 103, 104, 105, 112, 113, 114, 115, 123, 124, 125, 134, 135, 145, 1012, 1013, 1014, 1015, 1023, 1024, 1025, 1034, 1035, 1045, 1123, 1124, 1125, 1134, 1135, 1145, 1234, 1235, 1245, 1345, 10123, 10124, 10125, 10134, 10135, 10145, 10234, 10235, 10245, 10345, 11234, 11235, 11245, 11345, 12345, 101234, 101235, 101245, 101345, 102345, 112345, 1012345] : List Nat).map decL
theorem b32_i (x : Option Ob) (s : Ob) : iSeq (dCall 1 F__law_all_lots (aCons (o2 mulO (rdV 2) (rdV 3)) aNil)) [x, some s, some (.fr (.int 3)), some (.fr (.int 2)), some (.fr (.list [(.tuple [(.int 0), (.int 0)]), (.tuple [(.int 0), (.int 1)]), (.tuple [(.int 1), (.int 0)]), (.tuple [(.int 1), (.int 1)]), (.tuple [(.int 2), (.int 0)]), (.tuple [(.int 2), (.int 1)])])), some (.fr (.int 0)), some (.dk []), none, none, none, none, none, none, none, none, none, none] = some (L32_0 ++ ([])) := by kernel_rfl
theorem b32_p0 (x y7 y14 y15 y16 : Option Ob) (s : Ob) : stW [7, 14, 15, 16] lg0_law lb0_law L32_0 [x, some s, some (.fr (.int 3)), some (.fr (.int 2)), some (.fr (.list [(.tuple [(.int 0), (.int 0)]), (.tuple [(.int 0), (.int 1)]), (.tuple [(.int 1), (.int 0)]), (.tuple [(.int 1), (.int 1)]), (.tuple [(.int 2), (.int 0)]), (.tuple [(.int 2), (.int 1)])])), some (.fr (.int 0)), some (.dk []), y7, none, none, none, none, none, none, y14, y15, y16] = some [x, some s, some (.fr (.int 3)), some (.fr (.int 2)), some (.fr (.list [(.tuple [(.int 0), (.int 0)]), (.tuple [(.int 0), (.int 1)]), (.tuple [(.int 1), (.int 0)]), (.tuple [(.int 1), (.int 1)]), (.tuple [(.int 2), (.int 0)]), (.tuple [(.int 2), (.int 1)])])), some (.fr (.int 51)), some (.dk [(.inl 0, (.int 1)), (.inl 1, (.int 6)), (.inl 2, (.int 6))]), none, none, none, none, none, none, none, none, none, none] := by kernel_rfl
theorem b32_q1 (x y7 y14 y15 y16 : Option Ob) (s : Ob) : ∃ r, forL lg0_law lb0_law [] [x, some s, some (.fr (.int 3)), some (.fr (.int 2)), some (.fr (.list [(.tuple [(.int 0), (.int 0)]), (.tuple [(.int 0), (.int 1)]), (.tuple [(.int 1), (.int 0)]), (.tuple [(.int 1), (.int 1)]), (.tuple [(.int 2), (.int 0)]), (.tuple [(.int 2), (.int 1)])])), some (.fr (.int 51)), some (.dk [(.inl 0, (.int 1)), (.inl 1, (.int 6)), (.inl 2, (.int 6))]), y7, none, none, none, none, none, none, y14, y15, y16] = some r ∧ ∃ a b c d, r = .nx [x, some s, some (.fr (.int 3)), some (.fr (.int 2)), some (.fr (.list [(.tuple [(.int 0), (.int 0)]), (.tuple [(.int 0), (.int 1)]), (.tuple [(.int 1), (.int 0)]), (.tuple [(.int 1), (.int 1)]), (.tuple [(.int 2), (.int 0)]), (.tuple [(.int 2), (.int 1)])])), some (.fr (.int 51)), some (.dk [(.inl 0, (.int 1)), (.inl 1, (.int 6)), (.inl 2, (.int 6))]), a, none, none, none, none, none, none, b, c, d] := ⟨_, rfl, y7, y14, y15, y16, rfl⟩
theorem b32_q0 (x y7 y14 y15 y16 : Option Ob) (s : Ob) : ∃ r, forL lg0_law lb0_law (L32_0 ++ ([])) [x, some s, some (.fr (.int 3)), some (.fr (.int 2)), some (.fr (.list [(.tuple [(.int 0), (.int 0)]), (.tuple [(.int 0), (.int 1)]), (.tuple [(.int 1), (.int 0)]), (.tuple [(.int 1), (.int 1)]), (.tuple [(.int 2), (.int 0)]), (.tuple [(.int 2), (.int 1)])])), some (.fr (.int 0)), some (.dk []), y7, none, none, none, none, none, none, y14, y15, y16] = some r ∧ ∃ a b c d, r = .nx [x, some s, some (.fr (.int 3)), some (.fr (.int 2)), some (.fr (.list [(.tuple [(.int 0), (.int 0)]), (.tuple [(.int 0), (.int 1)]), (.tuple [(.int 1), (.int 0)]), (.tuple [(.int 1), (.int 1)]), (.tuple [(.int 2), (.int 0)]), (.tuple [(.int 2), (.int 1)])])), some (.fr (.int 51)), some (.dk [(.inl 0, (.int 1)), (.inl 1, (.int 6)), (.inl 2, (.int 6))]), a, none, none, none, none, none, none, b, c, d] := for_part [7, 14, 15, 16] (b32_p0 x y7 y14 y15 y16 s) fun ys h => match ys, h with | [a, b, c, d], _ => b32_q1 x a b c d s
theorem b32_5 (x y7 y14 y15 y16 : Option Ob) (s : Ob) : c5_law [x, some s, some (.fr (.int 3)), some (.fr (.int 2)), some (.fr (.list [(.tuple [(.int 0), (.int 0)]), (.tuple [(.int 0), (.int 1)]), (.tuple [(.int 1), (.int 0)]), (.tuple [(.int 1), (.int 1)]), (.tuple [(.int 2), (.int 0)]), (.tuple [(.int 2), (.int 1)])])), some (.fr (.int 51)), some (.dk [(.inl 0, (.int 1)), (.inl 1, (.int 6)), (.inl 2, (.int 6))]), y7, none, none, none, none, none, none, y14, y15, y16] = some (.nx [x, some s, some (.fr (.int 3)), some (.fr (.int 2)), some (.fr (.list [(.tuple [(.int 0), (.int 0)]), (.tuple [(.int 0), (.int 1)]), (.tuple [(.int 1), (.int 0)]), (.tuple [(.int 1), (.int 1)]), (.tuple [(.int 2), (.int 0)]), (.tuple [(.int 2), (.int 1)])])), some (.fr (.int 51)), some (.dk [(.inl 0, (.int 1)), (.inl 1, (.int 6)), (.inl 2, (.int 6))]), y7, none, none, none, none, none, none, y14, y15, y16]) := by kernel_rfl
theorem b32_6 (x y7 y14 y15 y16 : Option Ob) (s : Ob) : c6_law [x, some s, some (.fr (.int 3)), some (.fr (.int 2)), some (.fr (.list [(.tuple [(.int 0), (.int 0)]), (.tuple [(.int 0), (.int 1)]), (.tuple [(.int 1), (.int 0)]), (.tuple [(.int 1), (.int 1)]), (.tuple [(.int 2), (.int 0)]), (.tuple [(.int 2), (.int 1)])])), some (.fr (.int 51)), some (.dk [(.inl 0, (.int 1)), (.inl 1, (.int 6)), (.inl 2, (.int 6))]), y7, none, none, none, none, none, none, y14, y15, y16] = some (.nx [x, some s, some (.fr (.int 3)), some (.fr (.int 2)), some (.fr (.list [(.tuple [(.int 0), (.int 0)]), (.tuple [(.int 0), (.int 1)]), (.tuple [(.int 1), (.int 0)]), (.tuple [(.int 1), (.int 1)]), (.tuple [(.int 2), (.int 0)]), (.tuple [(.int 2), (.int 1)])])), some (.fr (.int 51)), some (.dk [(.inl 0, (.int 1)), (.inl 1, (.int 6)), (.inl 2, (.int 6))]), y7, some (.fr (.int 7)), none, none, none, none, none, y14, y15, y16]) := by kernel_rfl
theorem b32_7 (x y7 y14 y15 y16 : Option Ob) (s : Ob) : c7_law [x, some s, some (.fr (.int 3)), some (.fr (.int 2)), some (.fr (.list [(.tuple [(.int 0), (.int 0)]), (.tuple [(.int 0), (.int 1)]), (.tuple [(.int 1), (.int 0)]), (.tuple [(.int 1), (.int 1)]), (.tuple [(.int 2), (.int 0)]), (.tuple [(.int 2), (.int 1)])])), some (.fr (.int 51)), some (.dk [(.inl 0, (.int 1)), (.inl 1, (.int 6)), (.inl 2, (.int 6))]), y7, some (.fr (.int 7)), none, none, none, none, none, y14, y15, y16] = some (.nx [x, some s, some (.fr (.int 3)), some (.fr (.int 2)), some (.fr (.list [(.tuple [(.int 0), (.int 0)]), (.tuple [(.int 0), (.int 1)]), (.tuple [(.int 1), (.int 0)]), (.tuple [(.int 1), (.int 1)]), (.tuple [(.int 2), (.int 0)]), (.tuple [(.int 2), (.int 1)])])), some (.fr (.int 51)), some (.dk [(.inl 0, (.int 1)), (.inl 1, (.int 6)), (.inl 2, (.int 6))]), y7, some (.fr (.int 7)), none, none, none, none, none, y14, y15, y16]) := by kernel_rfl
theorem b32_8 (x y7 y14 y15 y16 : Option Ob) (s : Ob) : c8_law [x, some s, some (.fr (.int 3)), some (.fr (.int 2)), some (.fr (.list [(.tuple [(.int 0), (.int 0)]), (.tuple [(.int 0), (.int 1)]), (.tuple [(.int 1), (.int 0)]), (.tuple [(.int 1), (.int 1)]), (.tuple [(.int 2), (.int 0)]), (.tuple [(.int 2), (.int 1)])])), some (.fr (.int 51)), some (.dk [(.inl 0, (.int 1)), (.inl 1, (.int 6)), (.inl 2, (.int 6))]), y7, some (.fr (.int 7)), none, none, none, none, none, y14, y15, y16] = some (.nx [x, some s, some (.fr (.int 3)), some (.fr (.int 2)), some (.fr (.list [(.tuple [(.int 0), (.int 0)]), (.tuple [(.int 0), (.int 1)]), (.tuple [(.int 1), (.int 0)]), (.tuple [(.int 1), (.int 1)]), (.tuple [(.int 2), (.int 0)]), (.tuple [(.int 2), (.int 1)])])), some (.fr (.int 51)), some (.dk [(.inl 0, (.int 1)), (.inl 1, (.int 6)), (.inl 2, (.int 6))]), y7, some (.fr (.int 7)), none, none, none, none, none, y14, y15, y16]) := by kernel_rfl
theorem b32 (x : Option Ob) (s : Ob) (Q : Out → Prop) (k : ∀ y2 y3 y4 y5 y6 y7 y8 y14 y15 y16 : Option Ob, WS tail9 [x, some s, y2, y3, y4, y5, y6, y7, y8, none, none, none, none, none, y14, y15, y16] Q) : WS tail2 [x, some s, some (.fr (.int 3)), some (.fr (.int 2)), none, none, none, none, none, none, none, none, none, none, none, none, none] Q := by
  refine ws_nx (b32_2 x s) ?_
  refine ws_nx (b32_3 x s) ?_
  obtain ⟨r, e, a, b, c, d, rfl⟩ := b32_q0 x none none none none s
  refine ws_nx (ρ1 := [x, some s, some (.fr (.int 3)), some (.fr (.int 2)), some (.fr (.list [(.tuple [(.int 0), (.int 0)]), (.tuple [(.int 0), (.int 1)]), (.tuple [(.int 1), (.int 0)]), (.tuple [(.int 1), (.int 1)]), (.tuple [(.int 2), (.int 0)]), (.tuple [(.int 2), (.int 1)])])), some (.fr (.int 51)), some (.dk [(.inl 0, (.int 1)), (.inl 1, (.int 6)), (.inl 2, (.int 6))]), a, none, none, none, none, none, none, b, c, d]) ?_ ?_
  · unfold c4_law fFor
    rw [b32_i, Option.bind_some]
    exact e
  refine ws_nx (b32_5 x a b c d s) ?_
  refine ws_nx (b32_6 x a b c d s) ?_
  refine ws_nx (b32_7 x a b c d s) ?_
  refine ws_nx (b32_8 x a b c d s) ?_
  exact k _ _ _ _ _ _ _ _ _ _
theorem b24_2 (x : Option Ob) (s : Ob) : c2_law [x, some s, some (.fr (.int 2)), some (.fr (.int 4)), none, none, none, none, none, none, none, none, none, none, none, none, none] = some (.nx [x, some s, some (.fr (.int 2)), some (.fr (.int 4)), some (.fr (.list [(.tuple [(.int 0), (.int 0)]), (.tuple [(.int 0), (.int 1)]), (.tuple [(.int 0), (.int 2)]), (.tuple [(.int 0), (.int 3)]), (.tuple [(.int 1), (.int 0)]), (.tuple [(.int 1), (.int 1)]), (.tuple [(.int 1), (.int 2)]), (.tuple [(.int 1), (.int 3)])])), some (.fr (.int 0)), some (.dk []), none, none, none, none, none, none, none, none, none, none]) := by kernel_rfl
theorem b24_3 (x : Option Ob) (s : Ob) : c3_law [x, some s, some (.fr (.int 2)), some (.fr (.int 4)), some (.fr (.list [(.tuple [(.int 0), (.int 0)]), (.tuple [(.int 0), (.int 1)]), (.tuple [(.int 0), (.int 2)]), (.tuple [(.int 0), (.int 3)]), (.tuple [(.int 1), (.int 0)]), (.tuple [(.int 1), (.int 1)]), (.tuple [(.int 1), (.int 2)]), (.tuple [(.int 1), (.int 3)])])), some (.fr (.int 0)), some (.dk []), none, none, none, none, none, none, none, none, none, none] = some (.nx [x, some s, some (.fr (.int 2)), some (.fr (.int 4)), some (.fr (.list [(.tuple [(.int 0), (.int 0)]), (.tuple [(.int 0), (.int 1)]), (.tuple [(.int 0), (.int 2)]), (.tuple [(.int 0), (.int 3)]), (.tuple [(.int 1), (.int 0)]), (.tuple [(.int 1), (.int 1)]), (.tuple [(.int 1), (.int 2)]), (.tuple [(.int 1), (.int 3)])])), some (.fr (.int 0)), some (.dk []), none, none, none, none, none, none, none, none, none, none]) := by kernel_rfl
@[irreducible] def L24_0 : List PyData := ([1, 10, 11, 12, 13, 14, 15, 16, 17, 101, 102, 103, 104, 105, 106, 107, 112, 113, 114, 115, 116, 117, 123, 124, 125, 126, 127, 134, 135, 136, 137, 145, 146, 147, 156, 157, 167, 1012, 1013, 1014, 1015, 1016, 1017, 1023, 1024, 1025, 1026, 1027, 1034, 1035, 1036, 1037, 1045, 1046, 1047, 1056, 1057, 1067, 1123, 1124, 1125, 1126, 1127, 1134, 1135, 1136, 1137, 1145, 1146, 1147, 1156, 1157, 1167, 1234, 1235, 1236, 1237, 1245, 1246, 1247, 1256, 1257, 1267, 1345, 1346, 1347, 1356, 1357] : List Nat).map decL
@[irreducible] def L24_1 : List PyData := ([1367, 1456, 1457, 1467, 1567, 10123, 10124, 10125, 10126, 10127, 10134, 10135, 10136, 10137, 10145, 10146, 10147, 10156, 10157, 10167, 10234, 10235, 10236, 10237, 10245, 10246, 10247, 10256, 10257, 10267, 10345, 10346, 10347, 10356, 10357, 10367, 10456, 10457, 10467, 10567, 11234, 11235, 11236, 11237, 11245, 11246, 11247, 11256, 11257, 11267, 11345, 11346, 11347, 11356, 11357, 11367, 11456, 11457, 11467, 11567, 12345, 12346, 12347, 12356, 12357, 12367, 12456] : List Nat).map decL
@[irreducible] def L24_2 : List PyData := ([12457, 12467, 12567, 13456, 13457, 13467, 13567, 14567, 101234, 101235, 101236, 101237, 101245, 101246, 101247, 101256, 101257, 101267, 101345, 101346, 101347, 101356, 101357, 101367, 101456, 101457, 101467, 101567, 102345, 102346, 102347, 102356, 102357, 102367, 102456, 102457, 102467, 102567, 103456, 103457, 103467, 103567, 104567, 112345, 112346, 112347, 112356, 112357, 112367, 112456, 112457, 112467, 112567, 113456, 113457, 113467] : List Nat).map decL
@[irreducible] def L24_3 : List PyData := ([113567, 114567, 123456, 123457, 123467, 123567, 124567, 134567, 1012345, 1012346, 1012347, 1012356, 1012357, 1012367, 1012456, 1012457, 1012467, 1012567, 1013456, 1013457, 1013467, 1013567, 1014567, 1023456, 1023457, 1023467, 1023567, 1024567, 1034567, 1123456, 1123457, 1123467, 1123567, 1124567, 1134567, 1234567, 10123456, 10123457, 10123467, 10123567, 10124567, 10134567, 10234567, 11234567, 101234567] : List Nat).map decL
theorem b24_i (x : Option Ob) (s : Ob) : iSeq (dCall 1 F__law_all_lots (aCons (o2 mulO (rdV 2) (rdV 3)) aNil)) [x, some s, some (.fr (.int 2)), some (.fr (.int 4)), some (.fr (.list [(.tuple [(.int 0), (.int 0)]), (.tuple [(.int 0), (.int 1)]), (.tuple [(.int 0), (.int 2)]), (.tuple [(.int 0), (.int 3)]), (.tuple [(.int 1), (.int 0)]), (.tuple [(.int 1), (.int 1)]), (.tuple [(.int 1), (.int 2)]), (.tuple [(.int 1), (.int 3)])])), some (.fr (.int 0)), some (.dk []), none, none, none, none, none, none, none, none, none, none] = some (L24_0 ++ (L24_1 ++ (L24_2 ++ (L24_3 ++ ([]))))) := by kernel_rfl
theorem b24_p0 (x y7 y14 y15 y16 : Option Ob) (s : Ob) : stW [7, 14, 15, 16] lg0_law lb0_law L24_0 [x, some s, some (.fr (.int 2)), some (.fr (.int 4)), some (.fr (.list [(.tuple [(.int 0), (.int 0)]), (.tuple [(.int 0), (.int 1)]), (.tuple [(.int 0), (.int 2)]), (.tuple [(.int 0), (.int 3)]), (.tuple [(.int 1), (.int 0)]), (.tuple [(.int 1), (.int 1)]), (.tuple [(.int 1), (.int 2)]), (.tuple [(.int 1), (.int 3)])])), some (.fr (.int 0)), some (.dk []), y7, none, none, none, none, none, none, y14, y15, y16] = some [x, some s, some (.fr (.int 2)), some (.fr (.int 4)), some (.fr (.list [(.tuple [(.int 0), (.int 0)]), (.tuple [(.int 0), (.int 1)]), (.tuple [(.int 0), (.int 2)]), (.tuple [(.int 0), (.int 3)]), (.tuple [(.int 1), (.int 0)]), (.tuple [(.int 1), (.int 1)]), (.tuple [(.int 1), (.int 2)]), (.tuple [(.int 1), (.int 3)])])), some (.fr (.int 63)), some (.dk [(.inl 0, (.int 1)), (.inl 1, (.int 8)), (.inl 2, (.int 12))]), none, none, none, none, none, none, none, none, none, none] := by kernel_rfl
theorem b24_p1 (x y7 y14 y15 y16 : Option Ob) (s : Ob) : stW [7, 14, 15, 16] lg0_law lb0_law L24_1 [x, some s, some (.fr (.int 2)), some (.fr (.int 4)), some (.fr (.list [(.tuple [(.int 0), (.int 0)]), (.tuple [(.int 0), (.int 1)]), (.tuple [(.int 0), (.int 2)]), (.tuple [(.int 0), (.int 3)]), (.tuple [(.int 1), (.int 0)]), (.tuple [(.int 1), (.int 1)]), (.tuple [(.int 1), (.int 2)]), (.tuple [(.int 1), (.int 3)])])), some (.fr (.int 63)), some (.dk [(.inl 0, (.int 1)), (.inl 1, (.int 8)), (.inl 2, (.int 12))]), y7, none, none, none, none, none, none, y14, y15, y16] = some [x, some s, some (.fr (.int 2)), some (.fr (.int 4)), some (.fr (.list [(.tuple [(.int 0), (.int 0)]), (.tuple [(.int 0), (.int 1)]), (.tuple [(.int 0), (.int 2)]), (.tuple [(.int 0), (.int 3)]), (.tuple [(.int 1), (.int 0)]), (.tuple [(.int 1), (.int 1)]), (.tuple [(.int 1), (.int 2)]), (.tuple [(.int 1), (.int 3)])])), some (.fr (.int 126)), some (.dk [(.inl 0, (.int 1)), (.inl 1, (.int 8)), (.inl 2, (.int 12))]), none, none, none, none, none, none, none, none, none, none] := by kernel_rfl
theorem b24_p2 (x y7 y14 y15 y16 : Option Ob) (s : Ob) : stW [7, 14, 15, 16] lg0_law lb0_law L24_2 [x, some s, some (.fr (.int 2)), some (.fr (.int 4)), some (.fr (.list [(.tuple [(.int 0), (.int 0)]), (.tuple [(.int 0), (.int 1)]), (.tuple [(.int 0), (.int 2)]), (.tuple [(.int 0), (.int 3)]), (.tuple [(.int 1), (.int 0)]), (.tuple [(.int 1), (.int 1)]), (.tuple [(.int 1), (.int 2)]), (.tuple [(.int 1), (.int 3)])])), some (.fr (.int 126)), some (.dk [(.inl 0, (.int 1)), (.inl 1, (.int 8)), (.inl 2, (.int 12))]), y7, none, none, none, none, none, none, y14, y15, y16] = some [x, some s, some (.fr (.int 2)), some (.fr (.int 4)), some (.fr (.list [(.tuple [(.int 0), (.int 0)]), (.tuple [(.int 0), (.int 1)]), (.tuple [(.int 0), (.int 2)]), (.tuple [(.int 0), (.int 3)]), (.tuple [(.int 1), (.int 0)]), (.tuple [(.int 1), (.int 1)]), (.tuple [(.int 1), (.int 2)]), (.tuple [(.int 1), (.int 3)])])), some (.fr (.int 182)), some (.dk [(.inl 0, (.int 1)), (.inl 1, (.int 8)), (.inl 2, (.int 12))]), none, none, none, none, none, none, none, none, none, none] := by kernel_rfl
theorem b24_p3 (x y7 y14 y15 y16 : Option Ob) (s : Ob) : stW [7, 14, 15, 16] lg0_law lb0_law L24_3 [x, some s, some (.fr (.int 2)), some (.fr (.int 4)), some (.fr (.list [(.tuple [(.int 0), (.int 0)]), (.tuple [(.int 0), (.int 1)]), (.tuple [(.int 0), (.int 2)]), (.tuple [(.int 0), (.int 3)]), (.tuple [(.int 1), (.int 0)]), (.tuple [(.int 1), (.int 1)]), (.tuple [(.int 1), (.int 2)]), (.tuple [(.int 1), (.int 3)])])), some (.fr (.int 182)), some (.dk [(.inl 0, (.int 1)), (.inl 1, (.int 8)), (.inl 2, (.int 12))]), y7, none, none, none, none, none, none, y14, y15, y16] = some [x, some s, some (.fr (.int 2)), some (.fr (.int 4)), some (.fr (.list [(.tuple [(.int 0), (.int 0)]), (.tuple [(.int 0), (.int 1)]), (.tuple [(.int 0), (.int 2)]), (.tuple [(.int 0), (.int 3)]), (.tuple [(.int 1), (.int 0)]), (.tuple [(.int 1), (.int 1)]), (.tuple [(.int 1), (.int 2)]), (.tuple [(.int 1), (.int 3)])])), some (.fr (.int 227)), some (.dk [(.inl 0, (.int 1)), (.inl 1, (.int 8)), (.inl 2, (.int 12))]), none, none, none, none, none, none, none, none, none, none] := by kernel_rfl
theorem b24_q4 (x y7 y14 y15 y16 : Option Ob) (s : Ob) : ∃ r, forL lg0_law lb0_law [] [x, some s, some (.fr (.int 2)), some (.fr (.int 4)), some (.fr (.list [(.tuple [(.int 0), (.int 0)]), (.tuple [(.int 0), (.int 1)]), (.tuple [(.int 0), (.int 2)]), (.tuple [(.int 0), (.int 3)]), (.tuple [(.int 1), (.int 0)]), (.tuple [(.int 1), (.int 1)]), (.tuple [(.int 1), (.int 2)]), (.tuple [(.int 1), (.int 3)])])), some (.fr (.int 227)), some (.dk [(.inl 0, (.int 1)), (.inl 1, (.int 8)), (.inl 2, (.int 12))]), y7, none, none, none, none, none, none, y14, y15, y16] = some r ∧ ∃ a b c d, r = .nx [x, some s, some (.fr (.int 2)), some (.fr (.int 4)), some (.fr (.list [(.tuple [(.int 0), (.int 0)]), (.tuple [(.int 0), (.int 1)]), (.tuple [(.int 0), (.int 2)]), (.tuple [(.int 0), (.int 3)]), (.tuple [(.int 1), (.int 0)]), (.tuple [(.int 1), (.int 1)]), (.tuple [(.int 1), (.int 2)]), (.tuple [(.int 1), (.int 3)])])), some (.fr (.int 227)), some (.dk [(.inl 0, (.int 1)), (.inl 1, (.int 8)), (.inl 2, (.int 12))]), a, none, none, none, none, none, none, b, c, d] := ⟨_, rfl, y7, y14, y15, y16, rfl⟩
theorem b24_q3 (x y7 y14 y15 y16 : Option Ob) (s : Ob) : ∃ r, forL lg0_law lb0_law (L24_3 ++ ([])) [x, some s, some (.fr (.int 2)), some (.fr (.int 4)), some (.fr (.list [(.tuple [(.int 0), (.int 0)]), (.tuple [(.int 0), (.int 1)]), (.tuple [(.int 0), (.int 2)]), (.tuple [(.int 0), (.int 3)]), (.tuple [(.int 1), (.int 0)]), (.tuple [(.int 1), (.int 1)]), (.tuple [(.int 1), (.int 2)]), (.tuple [(.int 1), (.int 3)])])), some (.fr (.int 182)), some (.dk [(.inl 0, (.int 1)), (.inl 1, (.int 8)), (.inl 2, (.int 12))]), y7, none, none, none, none, none, none, y14, y15, y16] = some r ∧ ∃ a b c d, r = .nx [x, some s, some (.fr (.int 2)), some (.fr (.int 4)), some (.fr (.list [(.tuple [(.int 0), (.int 0)]), (.tuple [(.int 0), (.int 1)]), (.tuple [(.int 0), (.int 2)]), (.tuple [(.int 0), (.int 3)]), (.tuple [(.int 1), (.int 0)]), (.tuple [(.int 1), (.int 1)]), (.tuple [(.int 1), (.int 2)]), (.tuple [(.int 1), (.int 3)])])), some (.fr (.int 227)), some (.dk [(.inl 0, (.int 1)), (.inl 1, (.int 8)), (.inl 2, (.int 12))]), a, none, none, none, none, none, none, b, c, d] := for_part [7, 14, 15, 16] (b24_p3 x y7 y14 y15 y16 s) fun ys h => match ys, h with | [a, b, c, d], _ => b24_q4 x a b c d s
theorem b24_q2 (x y7 y14 y15 y16 : Option Ob) (s : Ob) : ∃ r, forL lg0_law lb0_law (L24_2 ++ (L24_3 ++ ([]))) [x, some s, some (.fr (.int 2)), some (.fr (.int 4)), some (.fr (.list [(.tuple [(.int 0), (.int 0)]), (.tuple [(.int 0), (.int 1)]), (.tuple [(.int 0), (.int 2)]), (.tuple [(.int 0), (.int 3)]), (.tuple [(.int 1), (.int 0)]), (.tuple [(.int 1), (.int 1)]), (.tuple [(.int 1), (.int 2)]), (.tuple [(.int 1), (.int 3)])])), some (.fr (.int 126)), some (.dk [(.inl 0, (.int 1)), (.inl 1, (.int 8)), (.inl 2, (.int 12))]), y7, none, none, none, none, none, none, y14, y15, y16] = some r ∧ ∃ a b c d, r = .nx [x, some s, some (.fr (.int 2)), some (.fr (.int 4)), some (.fr (.list [(.tuple [(.int 0), (.int 0)]), (.tuple [(.int 0), (.int 1)]), (.tuple [(.int 0), (.int 2)]), (.tuple [(.int 0), (.int 3)]), (.tuple [(.int 1), (.int 0)]), (.tuple [(.int 1), (.int 1)]), (.tuple [(.int 1), (.int 2)]), (.tuple [(.int 1), (.int 3)])])), some (.fr (.int 227)), some (.dk [(.inl 0, (.int 1)), (.inl 1, (.int 8)), (.inl 2, (.int 12))]), a, none, none, none, none, none, none, b, c, d] := for_part [7, 14, 15, 16] (b24_p2 x y7 y14 y15 y16 s) fun ys h => match ys, h with | [a, b, c, d], _ => b24_q3 x a b c d s
theorem b24_q1 (x y7 y14 y15 y16 : Option Ob) (s : Ob) : ∃ r, forL lg0_law lb0_law (L24_1 ++ (L24_2 ++ (L24_3 ++ ([])))) [x, some s, some (.fr (.int 2)), some (.fr (.int 4)), some (.fr (.list [(.tuple [(.int 0), (.int 0)]), (.tuple [(.int 0), (.int 1)]), (.tuple [(.int 0), (.int 2)]), (.tuple [(.int 0), (.int 3)]), (.tuple [(.int 1), (.int 0)]), (.tuple [(.int 1), (.int 1)]), (.tuple [(.int 1), (.int 2)]), (.tuple [(.int 1), (.int 3)])])), some (.fr (.int 63)), some (.dk [(.inl 0, (.int 1)), (.inl 1, (.int 8)), (.inl 2, (.int 12))]), y7, none, none, none, none, none, none, y14, y15, y16] = some r ∧ ∃ a b c d, r = .nx [x, some s, some (.fr (.int 2)), some (.fr (.int 4)), some (.fr (.list [(.tuple [(.int 0), (.int 0)]), (.tuple [(.int 0), (.int 1)]), (.tuple [(.int 0), (.int 2)]), (.tuple [(.int 0), (.int 3)]), (.tuple [(.int 1), (.int 0)]), (.tuple [(.int 1), (.int 1)]), (.tuple [(.int 1), (.int 2)]), (.tuple [(.int 1), (.int 3)])])), some (.fr (.int 227)), some (.dk [(.inl 0, (.int 1)), (.inl 1, (.int 8)), (.inl 2, (.int 12))]), a, none, none, none, none, none, none, b, c, d] := for_part [7, 14, 15, 16] (b24_p1 x y7 y14 y15 y16 s) fun ys h => match ys, h with | [a, b, c, d], _ => b24_q2 x a b c d s
theorem b24_q0 (x y7 y14 y15 y16 : Option Ob) (s : Ob) : ∃ r, forL lg0_law lb0_law (L24_0 ++ (L24_1 ++ (L24_2 ++ (L24_3 ++ ([]))))) [x, some s, some (.fr (.int 2)), some (.fr (.int 4)), some (.fr (.list [(.tuple [(.int 0), (.int 0)]), (.tuple [(.int 0), (.int 1)]), (.tuple [(.int 0), (.int 2)]), (.tuple [(.int 0), (.int 3)]), (.tuple [(.int 1), (.int 0)]), (.tuple [(.int 1), (.int 1)]), (.tuple [(.int 1), (.int 2)]), (.tuple [(.int 1), (.int 3)])])), some (.fr (.int 0)), some (.dk []), y7, none, none, none, none, none, none, y14, y15, y16] = some r ∧ ∃ a b c d, r = .nx [x, some s, some (.fr (.int 2)), some (.fr (.int 4)), some (.fr (.list [(.tuple [(.int 0), (.int 0)]), (.tuple [(.int 0), (.int 1)]), (.tuple [(.int 0), (.int 2)]), (.tuple [(.int 0), (.int 3)]), (.tuple [(.int 1), (.int 0)]), (.tuple [(.int 1), (.int 1)]), (.tuple [(.int 1), (.int 2)]), (.tuple [(.int 1), (.int 3)])])), some (.fr (.int 227)), some (.dk [(.inl 0, (.int 1)), (.inl 1, (.int 8)), (.inl 2, (.int 12))]), a, none, none, none, none, none, none, b, c, d] := for_part [7, 14, 15, 16] (b24_p0 x y7 y14 y15 y16 s) fun ys h => match ys, h with | [a, b, c, d], _ => b24_q1 x a b c d s
theorem b24_5 (x y7 y14 y15 y16 : Option Ob) (s : Ob) : c5_law [x, some s, some (.fr (.int 2)), some (.fr (.int 4)), some (.fr (.list [(.tuple [(.int 0), (.int 0)]), (.tuple [(.int 0), (.int 1)]), (.tuple [(.int 0), (.int 2)]), (.tuple [(.int 0), (.int 3)]), (.tuple [(.int 1), (.int 0)]), (.tuple [(.int 1), (.int 1)]), (.tuple [(.int 1), (.int 2)]), (.tuple [(.int 1), (.int 3)])])), some (.fr (.int 227)), some (.dk [(.inl 0, (.int 1)), (.inl 1, (.int 8)), (.inl 2, (.int 12))]), y7, none, none, none, none, none, none, y14, y15, y16] = some (.nx [x, some s, some (.fr (.int 2)), some (.fr (.int 4)), some (.fr (.list [(.tuple [(.int 0), (.int 0)]), (.tuple [(.int 0), (.int 1)]), (.tuple [(.int 0), (.int 2)]), (.tuple [(.int 0), (.int 3)]), (.tuple [(.int 1), (.int 0)]), (.tuple [(.int 1), (.int 1)]), (.tuple [(.int 1), (.int 2)]), (.tuple [(.int 1), (.int 3)])])), some (.fr (.int 227)), some (.dk [(.inl 0, (.int 1)), (.inl 1, (.int 8)), (.inl 2, (.int 12))]), y7, none, none, none, none, none, none, y14, y15, y16]) := by kernel_rfl
theorem b24_6 (x y7 y14 y15 y16 : Option Ob) (s : Ob) : c6_law [x, some s, some (.fr (.int 2)), some (.fr (.int 4)), some (.fr (.list [(.tuple [(.int 0), (.int 0)]), (.tuple [(.int 0), (.int 1)]), (.tuple [(.int 0), (.int 2)]), (.tuple [(.int 0), (.int 3)]), (.tuple [(.int 1), (.int 0)]), (.tuple [(.int 1), (.int 1)]), (.tuple [(.int 1), (.int 2)]), (.tuple [(.int 1), (.int 3)])])), some (.fr (.int 227)), some (.dk [(.inl 0, (.int 1)), (.inl 1, (.int 8)), (.inl 2, (.int 12))]), y7, none, none, none, none, none, none, y14, y15, y16] = some (.nx [x, some s, some (.fr (.int 2)), some (.fr (.int 4)), some (.fr (.list [(.tuple [(.int 0), (.int 0)]), (.tuple [(.int 0), (.int 1)]), (.tuple [(.int 0), (.int 2)]), (.tuple [(.int 0), (.int 3)]), (.tuple [(.int 1), (.int 0)]), (.tuple [(.int 1), (.int 1)]), (.tuple [(.int 1), (.int 2)]), (.tuple [(.int 1), (.int 3)])])), some (.fr (.int 227)), some (.dk [(.inl 0, (.int 1)), (.inl 1, (.int 8)), (.inl 2, (.int 12))]), y7, some (.fr (.int 9)), none, none, none, none, none, y14, y15, y16]) := by kernel_rfl
theorem b24_7 (x y7 y14 y15 y16 : Option Ob) (s : Ob) : c7_law [x, some s, some (.fr (.int 2)), some (.fr (.int 4)), some (.fr (.list [(.tuple [(.int 0), (.int 0)]), (.tuple [(.int 0), (.int 1)]), (.tuple [(.int 0), (.int 2)]), (.tuple [(.int 0), (.int 3)]), (.tuple [(.int 1), (.int 0)]), (.tuple [(.int 1), (.int 1)]), (.tuple [(.int 1), (.int 2)]), (.tuple [(.int 1), (.int 3)])])), some (.fr (.int 227)), some (.dk [(.inl 0, (.int 1)), (.inl 1, (.int 8)), (.inl 2, (.int 12))]), y7, some (.fr (.int 9)), none, none, none, none, none, y14, y15, y16] = some (.nx [x, some s, some (.fr (.int 2)), some (.fr (.int 4)), some (.fr (.list [(.tuple [(.int 0), (.int 0)]), (.tuple [(.int 0), (.int 1)]), (.tuple [(.int 0), (.int 2)]), (.tuple [(.int 0), (.int 3)]), (.tuple [(.int 1), (.int 0)]), (.tuple [(.int 1), (.int 1)]), (.tuple [(.int 1), (.int 2)]), (.tuple [(.int 1), (.int 3)])])), some (.fr (.int 227)), some (.dk [(.inl 0, (.int 1)), (.inl 1, (.int 8)), (.inl 2, (.int 12))]), y7, some (.fr (.int 9)), none, none, none, none, none, y14, y15, y16]) := by kernel_rfl
theorem b24_8 (x y7 y14 y15 y16 : Option Ob) (s : Ob) : c8_law [x, some s, some (.fr (.int 2)), some (.fr (.int 4)), some (.fr (.list [(.tuple [(.int 0), (.int 0)]), (.tuple [(.int 0), (.int 1)]), (.tuple [(.int 0), (.int 2)]), (.tuple [(.int 0), (.int 3)]), (.tuple [(.int 1), (.int 0)]), (.tuple [(.int 1), (.int 1)]), (.tuple [(.int 1), (.int 2)]), (.tuple [(.int 1), (.int 3)])])), some (.fr (.int 227)), some (.dk [(.inl 0, (.int 1)), (.inl 1, (.int 8)), (.inl 2, (.int 12))]), y7, some (.fr (.int 9)), none, none, none, none, none, y14, y15, y16] = some (.nx [x, some s, some (.fr (.int 2)), some (.fr (.int 4)), some (.fr (.list [(.tuple [(.int 0), (.int 0)]), (.tuple [(.int 0), (.int 1)]), (.tuple [(.int 0), (.int 2)]), (.tuple [(.int 0), (.int 3)]), (.tuple [(.int 1), (.int 0)]), (.tuple [(.int 1), (.int 1)]), (.tuple [(.int 1), (.int 2)]), (.tuple [(.int 1), (.int 3)])])), some (.fr (.int 227)), some (.dk [(.inl 0, (.int 1)), (.inl 1, (.int 8)), (.inl 2, (.int 12))]), y7, some (.fr (.int 9)), none, none, none, none, none, y14, y15, y16]) := by kernel_rfl
theorem b24 (x : Option Ob) (s : Ob) (Q : Out → Prop) (k : ∀ y2 y3 y4 y5 y6 y7 y8 y14 y15 y16 : Option Ob, WS tail9 [x, some s, y2, y3, y4, y5, y6, y7, y8, none, none, none, none, none, y14, y15, y16] Q) : WS tail2 [x, some s, some (.fr (.int 2)), some (.fr (.int 4)), none, none, none, none, none, none, none, none, none, none, none, none, none] Q := by
  refine ws_nx (b24_2 x s) ?_
  refine ws_nx (b24_3 x s) ?_
  obtain ⟨r, e, a, b, c, d, rfl⟩ := b24_q0 x none none none none s
  refine ws_nx (ρ1 := [x, some s, some (.fr (.int 2)), some (.fr (.int 4)), some (.fr (.list [(.tuple [(.int 0), (.int 0)]), (.tuple [(.int 0), (.int 1)]), (.tuple [(.int 0), (.int 2)]), (.tuple [(.int 0), (.int 3)]), (.tuple [(.int 1), (.int 0)]), (.tuple [(.int 1), (.int 1)]), (.tuple [(.int 1), (.int 2)]), (.tuple [(.int 1), (.int 3)])])), some (.fr (.int 227)), some (.dk [(.inl 0, (.int 1)), (.inl 1, (.int 8)), (.inl 2, (.int 12))]), a, none, none, none, none, none, none, b, c, d]) ?_ ?_
  · unfold c4_law fFor
    rw [b24_i, Option.bind_some]
    exact e
  refine ws_nx (b24_5 x a b c d s) ?_
  refine ws_nx (b24_6 x a b c d s) ?_
  refine ws_nx (b24_7 x a b c d s) ?_
  refine ws_nx (b24_8 x a b c d s) ?_
  exact k _ _ _ _ _ _ _ _ _ _
theorem b33_2 (x : Option Ob) (s : Ob) : c2_law [x, some s, some (.fr (.int 3)), some (.fr (.int 3)), none, none, none, none, none, none, none, none, none, none, none, none, none] = some (.nx [x, some s, some (.fr (.int 3)), some (.fr (.int 3)), some (.fr (.list [(.tuple [(.int 0), (.int 0)]), (.tuple [(.int 0), (.int 1)]), (.tuple [(.int 0), (.int 2)]), (.tuple [(.int 1), (.int 0)]), (.tuple [(.int 1), (.int 1)]), (.tuple [(.int 1), (.int 2)]), (.tuple [(.int 2), (.int 0)]), (.tuple [(.int 2), (.int 1)]), (.tuple [(.int 2), (.int 2)])])), some (.fr (.int 0)), some (.dk []), none, none, none, none, none, none, none, none, none, none]) := by kernel_rfl
theorem b33_3 (x : Option Ob) (s : Ob) : c3_law [x, some s, some (.fr (.int 3)), some (.fr (.int 3)), some (.fr (.list [(.tuple [(.int 0), (.int 0)]), (.tuple [(.int 0), (.int 1)]), (.tuple [(.int 0), (.int 2)]), (.tuple [(.int 1), (.int 0)]), (.tuple [(.int 1), (.int 1)]), (.tuple [(.int 1), (.int 2)]), (.tuple [(.int 2), (.int 0)]), (.tuple [(.int 2), (.int 1)]), (.tuple [(.int 2), (.int 2)])])), some (.fr (.int 0)), some (.dk []), none, none, none, none, none, none, none, none, none, none] = some (.nx [x, some s, some (.fr (.int 3)), some (.fr (.int 3)), some (.fr (.list [(.tuple [(.int 0), (.int 0)]), (.tuple [(.int 0), (.int 1)]), (.tuple [(.int 0), (.int 2)]), (.tuple [(.int 1), (.int 0)]), (.tuple [(.int 1), (.int 1)]), (.tuple [(.int 1), (.int 2)]), (.tuple [(.int 2), (.int 0)]), (.tuple [(.int 2), (.int 1)]), (.tuple [(.int 2), (.int 2)])])), some (.fr (.int 0)), some (.dk []), none, none, none, none, none, none, none, none, none, none]) := by kernel_rfl
@[irreducible] def L33_0 : List PyData := ([1, 10, 11, 12, 13, 14, 15, 16, 17, 18, 101, 102, 103, 104, 105, 106, 107, 108, 112, 113, 114, 115, 116, 117, 118, 123, 124, 125, 126, 127, 128, 134, 135, 136, 137, 138, 145, 146, 147, 148, 156, 157, 158, 167, 168, 178, 1012, 1013, 1014, 1015, 1016, 1017, 1018, 1023, 1024, 1025, 1026, 1027, 1028, 1034, 1035, 1036, 1037, 1038, 1045, 1046, 1047, 1048, 1056, 1057, 1058, 1067, 1068, 1078, 1123, 1124, 1125, 1126, 1127, 1128, 1134, 1135, 1136, 1137, 1138, 1145, 1146, 1147, 1148, 1156, 1157, 1158, 1167, 1168, 1178, 1234, 1235, 1236, 1237, 1238, 1245, 1246, 1247, 1248, 1256, 1257, 1258] : List Nat).map decL
@[irreducible] def L33_1 : List PyData := ([1267, 1268, 1278, 1345, 1346, 1347, 1348, 1356, 1357, 1358, 1367, 1368, 1378, 1456, 1457, 1458, 1467, 1468, 1478, 1567, 1568, 1578, 1678, 10123, 10124, 10125, 10126, 10127, 10128, 10134, 10135, 10136, 10137, 10138, 10145, 10146, 10147, 10148, 10156, 10157, 10158, 10167, 10168, 10178, 10234, 10235, 10236, 10237, 10238, 10245, 10246, 10247, 10248, 10256, 10257, 10258, 10267, 10268, 10278, 10345, 10346, 10347, 10348, 10356, 10357, 10358, 10367, 10368, 10378, 10456, 10457, 10458, 10467, 10468, 10478, 10567, 10568, 10578, 10678, 11234, 11235, 11236, 11237, 11238, 11245] : List Nat).map decL
@[irreducible] def L33_2 : List PyData := ([11246, 11247, 11248, 11256, 11257, 11258, 11267, 11268, 11278, 11345, 11346, 11347, 11348, 11356, 11357, 11358, 11367, 11368, 11378, 11456, 11457, 11458, 11467, 11468, 11478, 11567, 11568, 11578, 11678, 12345, 12346, 12347, 12348, 12356, 12357, 12358, 12367, 12368, 12378, 12456, 12457, 12458, 12467, 12468, 12478, 12567, 12568, 12578, 12678, 13456, 13457, 13458, 13467, 13468, 13478, 13567, 13568, 13578, 13678, 14567, 14568, 14578, 14678, 15678, 101234, 101235, 101236, 101237, 101238, 101245, 101246, 101247, 101248, 101256, 101257, 101258, 101267, 101268] : List Nat).map decL
@[irreducible] def L33_3 : List PyData := ([101278, 101345, 101346, 101347, 101348, 101356, 101357, 101358, 101367, 101368, 101378, 101456, 101457, 101458, 101467, 101468, 101478, 101567, 101568, 101578, 101678, 102345, 102346, 102347, 102348, 102356, 102357, 102358, 102367, 102368, 102378, 102456, 102457, 102458, 102467, 102468, 102478, 102567, 102568, 102578, 102678, 103456, 103457, 103458, 103467, 103468, 103478, 103567, 103568, 103578, 103678, 104567, 104568, 104578, 104678, 105678, 112345, 112346, 112347, 112348, 112356, 112357, 112358, 112367, 112368, 112378, 112456, 112457, 112458] : List Nat).map decL
@[irreducible] def L33_4 : List PyData := ([112467, 112468, 112478, 112567, 112568, 112578, 112678, 113456, 113457, 113458, 113467, 113468, 113478, 113567, 113568, 113578, 113678, 114567, 114568, 114578, 114678, 115678, 123456, 123457, 123458, 123467, 123468, 123478, 123567, 123568, 123578, 123678, 124567, 124568, 124578, 124678, 125678, 134567, 134568, 134578, 134678, 135678, 145678, 1012345, 1012346, 1012347, 1012348, 1012356, 1012357, 1012358, 1012367, 1012368, 1012378, 1012456, 1012457, 1012458, 1012467, 1012468, 1012478, 1012567, 1012568, 1012578, 1012678, 1013456, 1013457] : List Nat).map decL
@[irreducible] def L33_5 : List PyData := ([1013458, 1013467, 1013468, 1013478, 1013567, 1013568, 1013578, 1013678, 1014567, 1014568, 1014578, 1014678, 1015678, 1023456, 1023457, 1023458, 1023467, 1023468, 1023478, 1023567, 1023568, 1023578, 1023678, 1024567, 1024568, 1024578, 1024678, 1025678, 1034567, 1034568, 1034578, 1034678, 1035678, 1045678, 1123456, 1123457, 1123458, 1123467, 1123468, 1123478, 1123567, 1123568, 1123578, 1123678, 1124567, 1124568, 1124578, 1124678, 1125678, 1134567, 1134568, 1134578, 1134678, 1135678, 1145678, 1234567, 1234568, 1234578, 1234678] : List Nat).map decL
@[irreducible] def L33_6 : List PyData := ([1235678, 1245678, 1345678, 10123456, 10123457, 10123458, 10123467, 10123468, 10123478, 10123567, 10123568, 10123578, 10123678, 10124567, 10124568, 10124578, 10124678, 10125678, 10134567, 10134568, 10134578, 10134678, 10135678, 10145678, 10234567, 10234568, 10234578, 10234678, 10235678, 10245678, 10345678, 11234567, 11234568, 11234578, 11234678, 11235678, 11245678, 11345678, 12345678, 101234567, 101234568, 101234578, 101234678, 101235678, 101245678, 101345678, 102345678, 112345678, 1012345678] : List Nat).map decL
theorem b33_i (x : Option Ob) (s : Ob) : iSeq (dCall 1 F__law_all_lots (aCons (o2 mulO (rdV 2) (rdV 3)) aNil)) [x, some s, some (.fr (.int 3)), some (.fr (.int 3)), some (.fr (.list [(.tuple [(.int 0), (.int 0)]), (.tuple [(.int 0), (.int 1)]), (.tuple [(.int 0), (.int 2)]), (.tuple [(.int 1), (.int 0)]), (.tuple [(.int 1), (.int 1)]), (.tuple [(.int 1), (.int 2)]), (.tuple [(.int 2), (.int 0)]), (.tuple [(.int 2), (.int 1)]), (.tuple [(.int 2), (.int 2)])])), some (.fr (.int 0)), some (.dk []), none, none, none, none, none, none, none, none, none, none] = some (L33_0 ++ (L33_1 ++ (L33_2 ++ (L33_3 ++ (L33_4 ++ (L33_5 ++ (L33_6 ++ ([])))))))) := by kernel_rfl
theorem b33_p0 (x y7 y14 y15 y16 : Option Ob) (s : Ob) : stW [7, 14, 15, 16] lg0_law lb0_law L33_0 [x, some s, some (.fr (.int 3)), some (.fr (.int 3)), some (.fr (.list [(.tuple [(.int 0), (.int 0)]), (.tuple [(.int 0), (.int 1)]), (.tuple [(.int 0), (.int 2)]), (.tuple [(.int 1), (.int 0)]), (.tuple [(.int 1), (.int 1)]), (.tuple [(.int 1), (.int 2)]), (.tuple [(.int 2), (.int 0)]), (.tuple [(.int 2), (.int 1)]), (.tuple [(.int 2), (.int 2)])])), some (.fr (.int 0)), some (.dk []), y7, none, none, none, none, none, none, y14, y15, y16] = some [x, some s, some (.fr (.int 3)), some (.fr (.int 3)), some (.fr (.list [(.tuple [(.int 0), (.int 0)]), (.tuple [(.int 0), (.int 1)]), (.tuple [(.int 0), (.int 2)]), (.tuple [(.int 1), (.int 0)]), (.tuple [(.int 1), (.int 1)]), (.tuple [(.int 1), (.int 2)]), (.tuple [(.int 2), (.int 0)]), (.tuple [(.int 2), (.int 1)]), (.tuple [(.int 2), (.int 2)])])), some (.fr (.int 39)), some (.dk [(.inl 0, (.int 1)), (.inl 1, (.int 9)), (.inl 2, (.int 18)), (.inl 3, (.int 6))]), none, none, none, none, none, none, none, none, none, none] := by kernel_rfl
theorem b33_p1 (x y7 y14 y15 y16 : Option Ob) (s : Ob) : stW [7, 14, 15, 16] lg0_law lb0_law L33_1 [x, some s, some (.fr (.int 3)), some (.fr (.int 3)), some (.fr (.list [(.tuple [(.int 0), (.int 0)]), (.tuple [(.int 0), (.int 1)]), (.tuple [(.int 0), (.int 2)]), (.tuple [(.int 1), (.int 0)]), (.tuple [(.int 1), (.int 1)]), (.tuple [(.int 1), (.int 2)]), (.tuple [(.int 2), (.int 0)]), (.tuple [(.int 2), (.int 1)]), (.tuple [(.int 2), (.int 2)])])), some (.fr (.int 39)), some (.dk [(.inl 0, (.int 1)), (.inl 1, (.int 9)), (.inl 2, (.int 18)), (.inl 3, (.int 6))]), y7, none, none, none, none, none, none, y14, y15, y16] = some [x, some s, some (.fr (.int 3)), some (.fr (.int 3)), some (.fr (.list [(.tuple [(.int 0), (.int 0)]), (.tuple [(.int 0), (.int 1)]), (.tuple [(.int 0), (.int 2)]), (.tuple [(.int 1), (.int 0)]), (.tuple [(.int 1), (.int 1)]), (.tuple [(.int 1), (.int 2)]), (.tuple [(.int 2), (.int 0)]), (.tuple [(.int 2), (.int 1)]), (.tuple [(.int 2), (.int 2)])])), some (.fr (.int 105)), some (.dk [(.inl 0, (.int 1)), (.inl 1, (.int 9)), (.inl 2, (.int 18)), (.inl 3, (.int 6))]), none, none, none, none, none, none, none, none, none, none] := by kernel_rfl
theorem b33_p2 (x y7 y14 y15 y16 : Option Ob) (s : Ob) : stW [7, 14, 15, 16] lg0_law lb0_law L33_2 [x, some s, some (.fr (.int 3)), some (.fr (.int 3)), some (.fr (.list [(.tuple [(.int 0), (.int 0)]), (.tuple [(.int 0), (.int 1)]), (.tuple [(.int 0), (.int 2)]), (.tuple [(.int 1), (.int 0)]), (.tuple [(.int 1), (.int 1)]), (.tuple [(.int 1), (.int 2)]), (.tuple [(.int 2), (.int 0)]), (.tuple [(.int 2), (.int 1)]), (.tuple [(.int 2), (.int 2)])])), some (.fr (.int 105)), some (.dk [(.inl 0, (.int 1)), (.inl 1, (.int 9)), (.inl 2, (.int 18)), (.inl 3, (.int 6))]), y7, none, none, none, none, none, none, y14, y15, y16] = some [x, some s, some (.fr (.int 3)), some (.fr (.int 3)), some (.fr (.list [(.tuple [(.int 0), (.int 0)]), (.tuple [(.int 0), (.int 1)]), (.tuple [(.int 0), (.int 2)]), (.tuple [(.int 1), (.int 0)]), (.tuple [(.int 1), (.int 1)]), (.tuple [(.int 1), (.int 2)]), (.tuple [(.int 2), (.int 0)]), (.tuple [(.int 2), (.int 1)]), (.tuple [(.int 2), (.int 2)])])), some (.fr (.int 179)), some (.dk [(.inl 0, (.int 1)), (.inl 1, (.int 9)), (.inl 2, (.int 18)), (.inl 3, (.int 6))]), none, none, none, none, none, none, none, none, none, none] := by kernel_rfl
theorem b33_p3 (x y7 y14 y15 y16 : Option Ob) (s : Ob) : stW [7, 14, 15, 16] lg0_law lb0_law L33_3 [x, some s, some (.fr (.int 3)), some (.fr (.int 3)), some (.fr (.list [(.tuple [(.int 0), (.int 0)]), (.tuple [(.int 0), (.int 1)]), (.tuple [(.int 0), (.int 2)]), (.tuple [(.int 1), (.int 0)]), (.tuple [(.int 1), (.int 1)]), (.tuple [(.int 1), (.int 2)]), (.tuple [(.int 2), (.int 0)]), (.tuple [(.int 2), (.int 1)]), (.tuple [(.int 2), (.int 2)])])), some (.fr (.int 179)), some (.dk [(.inl 0, (.int 1)), (.inl 1, (.int 9)), (.inl 2, (.int 18)), (.inl 3, (.int 6))]), y7, none, none, none, none, none, none, y14, y15, y16] = some [x, some s, some (.fr (.int 3)), some (.fr (.int 3)), some (.fr (.list [(.tuple [(.int 0), (.int 0)]), (.tuple [(.int 0), (.int 1)]), (.tuple [(.int 0), (.int 2)]), (.tuple [(.int 1), (.int 0)]), (.tuple [(.int 1), (.int 1)]), (.tuple [(.int 1), (.int 2)]), (.tuple [(.int 2), (.int 0)]), (.tuple [(.int 2), (.int 1)]), (.tuple [(.int 2), (.int 2)])])), some (.fr (.int 248)), some (.dk [(.inl 0, (.int 1)), (.inl 1, (.int 9)), (.inl 2, (.int 18)), (.inl 3, (.int 6))]), none, none, none, none, none, none, none, none, none, none] := by kernel_rfl
theorem b33_p4 (x y7 y14 y15 y16 : Option Ob) (s : Ob) : stW [7, 14, 15, 16] lg0_law lb0_law L33_4 [x, some s, some (.fr (.int 3)), some (.fr (.int 3)), some (.fr (.list [(.tuple [(.int 0), (.int 0)]), (.tuple [(.int 0), (.int 1)]), (.tuple [(.int 0), (.int 2)]), (.tuple [(.int 1), (.int 0)]), (.tuple [(.int 1), (.int 1)]), (.tuple [(.int 1), (.int 2)]), (.tuple [(.int 2), (.int 0)]), (.tuple [(.int 2), (.int 1)]), (.tuple [(.int 2), (.int 2)])])), some (.fr (.int 248)), some (.dk [(.inl 0, (.int 1)), (.inl 1, (.int 9)), (.inl 2, (.int 18)), (.inl 3, (.int 6))]), y7, none, none, none, none, none, none, y14, y15, y16] = some [x, some s, some (.fr (.int 3)), some (.fr (.int 3)), some (.fr (.list [(.tuple [(.int 0), (.int 0)]), (.tuple [(.int 0), (.int 1)]), (.tuple [(.int 0), (.int 2)]), (.tuple [(.int 1), (.int 0)]), (.tuple [(.int 1), (.int 1)]), (.tuple [(.int 1), (.int 2)]), (.tuple [(.int 2), (.int 0)]), (.tuple [(.int 2), (.int 1)]), (.tuple [(.int 2), (.int 2)])])), some (.fr (.int 313)), some (.dk [(.inl 0, (.int 1)), (.inl 1, (.int 9)), (.inl 2, (.int 18)), (.inl 3, (.int 6))]), none, none, none, none, none, none, none, none, none, none] := by kernel_rfl
theorem b33_p5 (x y7 y14 y15 y16 : Option Ob) (s : Ob) : stW [7, 14, 15, 16] lg0_law lb0_law L33_5 [x, some s, some (.fr (.int 3)), some (.fr (.int 3)), some (.fr (.list [(.tuple [(.int 0), (.int 0)]), (.tuple [(.int 0), (.int 1)]), (.tuple [(.int 0), (.int 2)]), (.tuple [(.int 1), (.int 0)]), (.tuple [(.int 1), (.int 1)]), (.tuple [(.int 1), (.int 2)]), (.tuple [(.int 2), (.int 0)]), (.tuple [(.int 2), (.int 1)]), (.tuple [(.int 2), (.int 2)])])), some (.fr (.int 313)), some (.dk [(.inl 0, (.int 1)), (.inl 1, (.int 9)), (.inl 2, (.int 18)), (.inl 3, (.int 6))]), y7, none, none, none, none, none, none, y14, y15, y16] = some [x, some s, some (.fr (.int 3)), some (.fr (.int 3)), some (.fr (.list [(.tuple [(.int 0), (.int 0)]), (.tuple [(.int 0), (.int 1)]), (.tuple [(.int 0), (.int 2)]), (.tuple [(.int 1), (.int 0)]), (.tuple [(.int 1), (.int 1)]), (.tuple [(.int 1), (.int 2)]), (.tuple [(.int 2), (.int 0)]), (.tuple [(.int 2), (.int 1)]), (.tuple [(.int 2), (.int 2)])])), some (.fr (.int 372)), some (.dk [(.inl 0, (.int 1)), (.inl 1, (.int 9)), (.inl 2, (.int 18)), (.inl 3, (.int 6))]), none, none, none, none, none, none, none, none, none, none] := by kernel_rfl
theorem b33_p6 (x y7 y14 y15 y16 : Option Ob) (s : Ob) : stW [7, 14, 15, 16] lg0_law lb0_law L33_6 [x, some s, some (.fr (.int 3)), some (.fr (.int 3)), some (.fr (.list [(.tuple [(.int 0), (.int 0)]), (.tuple [(.int 0), (.int 1)]), (.tuple [(.int 0), (.int 2)]), (.tuple [(.int 1), (.int 0)]), (.tuple [(.int 1), (.int 1)]), (.tuple [(.int 1), (.int 2)]), (.tuple [(.int 2), (.int 0)]), (.tuple [(.int 2), (.int 1)]), (.tuple [(.int 2), (.int 2)])])), some (.fr (.int 372)), some (.dk [(.inl 0, (.int 1)), (.inl 1, (.int 9)), (.inl 2, (.int 18)), (.inl 3, (.int 6))]), y7, none, none, none, none, none, none, y14, y15, y16] = some [x, some s, some (.fr (.int 3)), some (.fr (.int 3)), some (.fr (.list [(.tuple [(.int 0), (.int 0)]), (.tuple [(.int 0), (.int 1)]), (.tuple [(.int 0), (.int 2)]), (.tuple [(.int 1), (.int 0)]), (.tuple [(.int 1), (.int 1)]), (.tuple [(.int 1), (.int 2)]), (.tuple [(.int 2), (.int 0)]), (.tuple [(.int 2), (.int 1)]), (.tuple [(.int 2), (.int 2)])])), some (.fr (.int 421)), some (.dk [(.inl 0, (.int 1)), (.inl 1, (.int 9)), (.inl 2, (.int 18)), (.inl 3, (.int 6))]), none, none, none, none, none, none, none, none, none, none] := by kernel_rfl
theorem b33_q7 (x y7 y14 y15 y16 : Option Ob) (s : Ob) : ∃ r, forL lg0_law lb0_law [] [x, some s, some (.fr (.int 3)), some (.fr (.int 3)), some (.fr (.list [(.tuple [(.int 0), (.int 0)]), (.tuple [(.int 0), (.int 1)]), (.tuple [(.int 0), (.int 2)]), (.tuple [(.int 1), (.int 0)]), (.tuple [(.int 1), (.int 1)]), (.tuple [(.int 1), (.int 2)]), (.tuple [(.int 2), (.int 0)]), (.tuple [(.int 2), (.int 1)]), (.tuple [(.int 2), (.int 2)])])), some (.fr (.int 421)), some (.dk [(.inl 0, (.int 1)), (.inl 1, (.int 9)), (.inl 2, (.int 18)), (.inl 3, (.int 6))]), y7, none, none, none, none, none, none, y14, y15, y16] = some r ∧ ∃ a b c d, r = .nx [x, some s, some (.fr (.int 3)), some (.fr (.int 3)), some (.fr (.list [(.tuple [(.int 0), (.int 0)]), (.tuple [(.int 0), (.int 1)]), (.tuple [(.int 0), (.int 2)]), (.tuple [(.int 1), (.int 0)]), (.tuple [(.int 1), (.int 1)]), (.tuple [(.int 1), (.int 2)]), (.tuple [(.int 2), (.int 0)]), (.tuple [(.int 2), (.int 1)]), (.tuple [(.int 2), (.int 2)])])), some (.fr (.int 421)), some (.dk [(.inl 0, (.int 1)), (.inl 1, (.int 9)), (.inl 2, (.int 18)), (.inl 3, (.int 6))]), a, none, none, none, none, none, none, b, c, d] := ⟨_, rfl, y7, y14, y15, y16, rfl⟩
theorem b33_q6 (x y7 y14 y15 y16 : Option Ob) (s : Ob) : ∃ r, forL lg0_law lb0_law (L33_6 ++ ([])) [x, some s, some (.fr (.int 3)), some (.fr (.int 3)), some (.fr (.list [(.tuple [(.int 0), (.int 0)]), (.tuple [(.int 0), (.int 1)]), (.tuple [(.int 0), (.int 2)]), (.tuple [(.int 1), (.int 0)]), (.tuple [(.int 1), (.int 1)]), (.tuple [(.int 1), (.int 2)]), (.tuple [(.int 2), (.int 0)]), (.tuple [(.int 2), (.int 1)]), (.tuple [(.int 2), (.int 2)])])), some (.fr (.int 372)), some (.dk [(.inl 0, (.int 1)), (.inl 1, (.int 9)), (.inl 2, (.int 18)), (.inl 3, (.int 6))]), y7, none, none, none, none, none, none, y14, y15, y16] = some r ∧ ∃ a b c d, r = .nx [x, some s, some (.fr (.int 3)), some (.fr (.int 3)), some (.fr (.list [(.tuple [(.int 0), (.int 0)]), (.tuple [(.int 0), (.int 1)]), (.tuple [(.int 0), (.int 2)]), (.tuple [(.int 1), (.int 0)]), (.tuple [(.int 1), (.int 1)]), (.tuple [(.int 1), (.int 2)]), (.tuple [(.int 2), (.int 0)]), (.tuple [(.int 2), (.int 1)]), (.tuple [(.int 2), (.int 2)])])), some (.fr (.int 421)), some (.dk [(.inl 0, (.int 1)), (.inl 1, (.int 9)), (.inl 2, (.int 18)), (.inl 3, (.int 6))]), a, none, none, none, none, none, none, b, c, d] := for_part [7, 14, 15, 16] (b33_p6 x y7 y14 y15 y16 s) fun ys h => match ys, h with | [a, b, c, d], _ => b33_q7 x a b c d s
theorem b33_q5 (x y7 y14 y15 y16 : Option Ob) (s : Ob) : ∃ r, forL lg0_law lb0_law (L33_5 ++ (L33_6 ++ ([]))) [x, some s, some (.fr (.int 3)), some (.fr (.int 3)), some (.fr (.list [(.tuple [(.int 0), (.int 0)]), (.tuple [(.int 0), (.int 1)]), (.tuple [(.int 0), (.int 2)]), (.tuple [(.int 1), (.int 0)]), (.tuple [(.int 1), (.int 1)]), (.tuple [(.int 1), (.int 2)]), (.tuple [(.int 2), (.int 0)]), (.tuple [(.int 2), (.int 1)]), (.tuple [(.int 2), (.int 2)])])), some (.fr (.int 313)), some (.dk [(.inl 0, (.int 1)), (.inl 1, (.int 9)), (.inl 2, (.int 18)), (.inl 3, (.int 6))]), y7, none, none, none, none, none, none, y14, y15, y16] = some r ∧ ∃ a b c d, r = .nx [x, some s, some (.fr (.int 3)), some (.fr (.int 3)), some (.fr (.list [(.tuple [(.int 0), (.int 0)]), (.tuple [(.int 0), (.int 1)]), (.tuple [(.int 0), (.int 2)]), (.tuple [(.int 1), (.int 0)]), (.tuple [(.int 1), (.int 1)]), (.tuple [(.int 1), (.int 2)]), (.tuple [(.int 2), (.int 0)]), (.tuple [(.int 2), (.int 1)]), (.tuple [(.int 2), (.int 2)])])), some (.fr (.int 421)), some (.dk [(.inl 0, (.int 1)), (.inl 1, (.int 9)), (.inl 2, (.int 18)), (.inl 3, (.int 6))]), a, none, none, none, none, none, none, b, c, d] := for_part [7, 14, 15, 16] (b33_p5 x y7 y14 y15 y16 s) fun ys h => match ys, h with | [a, b, c, d], _ => b33_q6 x a b c d s
theorem b33_q4 (x y7 y14 y15 y16 : Option Ob) (s : Ob) : ∃ r, forL lg0_law lb0_law (L33_4 ++ (L33_5 ++ (L33_6 ++ ([])))) [x, some s, some (.fr (.int 3)), some (.fr (.int 3)), some (.fr (.list [(.tuple [(.int 0), (.int 0)]), (.tuple [(.int 0), (.int 1)]), (.tuple [(.int 0), (.int 2)]), (.tuple [(.int 1), (.int 0)]), (.tuple [(.int 1), (.int 1)]), (.tuple [(.int 1), (.int 2)]), (.tuple [(.int 2), (.int 0)]), (.tuple [(.int 2), (.int 1)]), (.tuple [(.int 2), (.int 2)])])), some (.fr (.int 248)), some (.dk [(.inl 0, (.int 1)), (.inl 1, (.int 9)), (.inl 2, (.int 18)), (.inl 3, (.int 6))]), y7, none, none, none, none, none, none, y14, y15, y16] = some r ∧ ∃ a b c d, r = .nx [x, some s, some (.fr (.int 3)), some (.fr (.int 3)), some (.fr (.list [(.tuple [(.int 0), (.int 0)]), (.tuple [(.int 0), (.int 1)]), (.tuple [(.int 0), (.int 2)]), (.tuple [(.int 1), (.int 0)]), (.tuple [(.int 1), (.int 1)]), (.tuple [(.int 1), (.int 2)]), (.tuple [(.int 2), (.int 0)]), (.tuple [(.int 2), (.int 1)]), (.tuple [(.int 2), (.int 2)])])), some (.fr (.int 421)), some (.dk [(.inl 0, (.int 1)), (.inl 1, (.int 9)), (.inl 2, (.int 18)), (.inl 3, (.int 6))]), a, none, none, none, none, none, none, b, c, d] := for_part [7, 14, 15, 16] (b33_p4 x y7 y14 y15 y16 s) fun ys h => match ys, h with | [a, b, c, d], _ => b33_q5 x a b c d s
theorem b33_q3 (x y7 y14 y15 y16 : Option Ob) (s : Ob) : ∃ r, forL lg0_law lb0_law (L33_3 ++ (L33_4 ++ (L33_5 ++ (L33_6 ++ ([]))))) [x, some s, some (.fr (.int 3)), some (.fr (.int 3)), some (.fr (.list [(.tuple [(.int 0), (.int 0)]), (.tuple [(.int 0), (.int 1)]), (.tuple [(.int 0), (.int 2)]), (.tuple [(.int 1), (.int 0)]), (.tuple [(.int 1), (.int 1)]), (.tuple [(.int 1), (.int 2)]), (.tuple [(.int 2), (.int 0)]), (.tuple [(.int 2), (.int 1)]), (.tuple [(.int 2), (.int 2)])])), some (.fr (.int 179)), some (.dk [(.inl 0, (.int 1)), (.inl 1, (.int 9)), (.inl 2, (.int 18)), (.inl 3, (.int 6))]), y7, none, none, none, none, none, none, y14, y15, y16] = some r ∧ ∃ a b c d, r = .nx [x, some s, some (.fr (.int 3)), some (.fr (.int 3)), some (.fr (.list [(.tuple [(.int 0), (.int 0)]), (.tuple [(.int 0), (.int 1)]), (.tuple [(.int 0), (.int 2)]), (.tuple [(.int 1), (.int 0)]), (.tuple [(.int 1), (.int 1)]), (.tuple [(.int 1), (.int 2)]), (.tuple [(.int 2), (.int 0)]), (.tuple [(.int 2), (.int 1)]), (.tuple [(.int 2), (.int 2)])])), some (.fr (.int 421)), some (.dk [(.inl 0, (.int 1)), (.inl 1, (.int 9)), (.inl 2, (.int 18)), (.inl 3, (.int 6))]), a, none, none, none, none, none, none, b, c, d] := for_part [7, 14, 15, 16] (b33_p3 x y7 y14 y15 y16 s) fun ys h => match ys, h with | [a, b, c, d], _ => b33_q4 x a b c d s
theorem b33_q2 (x y7 y14 y15 y16 : Option Ob) (s : Ob) : ∃ r, forL lg0_law lb0_law (L33_2 ++ (L33_3 ++ (L33_4 ++ (L33_5 ++ (L33_6 ++ ([])))))) [x, some s, some (.fr (.int 3)), some (.fr (.int 3)), some (.fr (.list [(.tuple [(.int 0), (.int 0)]), (.tuple [(.int 0), (.int 1)]), (.tuple [(.int 0), (.int 2)]), (.tuple [(.int 1), (.int 0)]), (.tuple [(.int 1), (.int 1)]), (.tuple [(.int 1), (.int 2)]), (.tuple [(.int 2), (.int 0)]), (.tuple [(.int 2), (.int 1)]), (.tuple [(.int 2), (.int 2)])])), some (.fr (.int 105)), some (.dk [(.inl 0, (.int 1)), (.inl 1, (.int 9)), (.inl 2, (.int 18)), (.inl 3, (.int 6))]), y7, none, none, none, none, none, none, y14, y15, y16] = some r ∧ ∃ a b c d, r = .nx [x, some s, some (.fr (.int 3)), some (.fr (.int 3)), some (.fr (.list [(.tuple [(.int 0), (.int 0)]), (.tuple [(.int 0), (.int 1)]), (.tuple [(.int 0), (.int 2)]), (.tuple [(.int 1), (.int 0)]), (.tuple [(.int 1), (.int 1)]), (.tuple [(.int 1), (.int 2)]), (.tuple [(.int 2), (.int 0)]), (.tuple [(.int 2), (.int 1)]), (.tuple [(.int 2), (.int 2)])])), some (.fr (.int 421)), some (.dk [(.inl 0, (.int 1)), (.inl 1, (.int 9)), (.inl 2, (.int 18)), (.inl 3, (.int 6))]), a, none, none, none, none, none, none, b, c, d] := for_part [7, 14, 15, 16] (b33_p2 x y7 y14 y15 y16 s) fun ys h => match ys, h with | [a, b, c, d], _ => b33_q3 x a b c d s
theorem b33_q1 (x y7 y14 y15 y16 : Option Ob) (s : Ob) : ∃ r, forL lg0_law lb0_law (L33_1 ++ (L33_2 ++ (L33_3 ++ (L33_4 ++ (L33_5 ++ (L33_6 ++ ([]))))))) [x, some s, some (.fr (.int 3)), some (.fr (.int 3)), some (.fr (.list [(.tuple [(.int 0), (.int 0)]), (.tuple [(.int 0), (.int 1)]), (.tuple [(.int 0), (.int 2)]), (.tuple [(.int 1), (.int 0)]), (.tuple [(.int 1), (.int 1)]), (.tuple [(.int 1), (.int 2)]), (.tuple [(.int 2), (.int 0)]), (.tuple [(.int 2), (.int 1)]), (.tuple [(.int 2), (.int 2)])])), some (.fr (.int 39)), some (.dk [(.inl 0, (.int 1)), (.inl 1, (.int 9)), (.inl 2, (.int 18)), (.inl 3, (.int 6))]), y7, none, none, none, none, none, none, y14, y15, y16] = some r ∧ ∃ a b c d, r = .nx [x, some s, some (.fr (.int 3)), some (.fr (.int 3)), some (.fr (.list [(.tuple [(.int 0), (.int 0)]), (.tuple [(.int 0), (.int 1)]), (.tuple [(.int 0), (.int 2)]), (.tuple [(.int 1), (.int 0)]), (.tuple [(.int 1), (.int 1)]), (.tuple [(.int 1), (.int 2)]), (.tuple [(.int 2), (.int 0)]), (.tuple [(.int 2), (.int 1)]), (.tuple [(.int 2), (.int 2)])])), some (.fr (.int 421)), some (.dk [(.inl 0, (.int 1)), (.inl 1, (.int 9)), (.inl 2, (.int 18)), (.inl 3, (.int 6))]), a, none, none, none, none, none, none, b, c, d] := for_part [7, 14, 15, 16] (b33_p1 x y7 y14 y15 y16 s) fun ys h => match ys, h with | [a, b, c, d], _ => b33_q2 x a b c d s
theorem b33_q0 (x y7 y14 y15 y16 : Option Ob) (s : Ob) : ∃ r, forL lg0_law lb0_law (L33_0 ++ (L33_1 ++ (L33_2 ++ (L33_3 ++ (L33_4 ++ (L33_5 ++ (L33_6 ++ ([])))))))) [x, some s, some (.fr (.int 3)), some (.fr (.int 3)), some (.fr (.list [(.tuple [(.int 0), (.int 0)]), (.tuple [(.int 0), (.int 1)]), (.tuple [(.int 0), (.int 2)]), (.tuple [(.int 1), (.int 0)]), (.tuple [(.int 1), (.int 1)]), (.tuple [(.int 1), (.int 2)]), (.tuple [(.int 2), (.int 0)]), (.tuple [(.int 2), (.int 1)]), (.tuple [(.int 2), (.int 2)])])), some (.fr (.int 0)), some (.dk []), y7, none, none, none, none, none, none, y14, y15, y16] = some r ∧ ∃ a b c d, r = .nx [x, some s, some (.fr (.int 3)), some (.fr (.int 3)), some (.fr (.list [(.tuple [(.int 0), (.int 0)]), (.tuple [(.int 0), (.int 1)]), (.tuple [(.int 0), (.int 2)]), (.tuple [(.int 1), (.int 0)]), (.tuple [(.int 1), (.int 1)]), (.tuple [(.int 1), (.int 2)]), (.tuple [(.int 2), (.int 0)]), (.tuple [(.int 2), (.int 1)]), (.tuple [(.int 2), (.int 2)])])), some (.fr (.int 421)), some (.dk [(.inl 0, (.int 1)), (.inl 1, (.int 9)), (.inl 2, (.int 18)), (.inl 3, (.int 6))]), a, none, none, none, none, none, none, b, c, d] := for_part [7, 14, 15, 16] (b33_p0 x y7 y14 y15 y16 s) fun ys h => match ys, h with | [a, b, c, d], _ => b33_q1 x a b c d s
theorem b33_5 (x y7 y14 y15 y16 : Option Ob) (s : Ob) : c5_law [x, some s, some (.fr (.int 3)), some (.fr (.int 3)), some (.fr (.list [(.tuple [(.int 0), (.int 0)]), (.tuple [(.int 0), (.int 1)]), (.tuple [(.int 0), (.int 2)]), (.tuple [(.int 1), (.int 0)]), (.tuple [(.int 1), (.int 1)]), (.tuple [(.int 1), (.int 2)]), (.tuple [(.int 2), (.int 0)]), (.tuple [(.int 2), (.int 1)]), (.tuple [(.int 2), (.int 2)])])), some (.fr (.int 421)), some (.dk [(.inl 0, (.int 1)), (.inl 1, (.int 9)), (.inl 2, (.int 18)), (.inl 3, (.int 6))]), y7, none, none, none, none, none, none, y14, y15, y16] = some (.nx [x, some s, some (.fr (.int 3)), some (.fr (.int 3)), some (.fr (.list [(.tuple [(.int 0), (.int 0)]), (.tuple [(.int 0), (.int 1)]), (.tuple [(.int 0), (.int 2)]), (.tuple [(.int 1), (.int 0)]), (.tuple [(.int 1), (.int 1)]), (.tuple [(.int 1), (.int 2)]), (.tuple [(.int 2), (.int 0)]), (.tuple [(.int 2), (.int 1)]), (.tuple [(.int 2), (.int 2)])])), some (.fr (.int 421)), some (.dk [(.inl 0, (.int 1)), (.inl 1, (.int 9)), (.inl 2, (.int 18)), (.inl 3, (.int 6))]), y7, none, none, none, none, none, none, y14, y15, y16]) := by kernel_rfl
theorem b33_6 (x y7 y14 y15 y16 : Option Ob) (s : Ob) : c6_law [x, some s, some (.fr (.int 3)), some (.fr (.int 3)), some (.fr (.list [(.tuple [(.int 0), (.int 0)]), (.tuple [(.int 0), (.int 1)]), (.tuple [(.int 0), (.int 2)]), (.tuple [(.int 1), (.int 0)]), (.tuple [(.int 1), (.int 1)]), (.tuple [(.int 1), (.int 2)]), (.tuple [(.int 2), (.int 0)]), (.tuple [(.int 2), (.int 1)]), (.tuple [(.int 2), (.int 2)])])), some (.fr (.int 421)), some (.dk [(.inl 0, (.int 1)), (.inl 1, (.int 9)), (.inl 2, (.int 18)), (.inl 3, (.int 6))]), y7, none, none, none, none, none, none, y14, y15, y16] = some (.nx [x, some s, some (.fr (.int 3)), some (.fr (.int 3)), some (.fr (.list [(.tuple [(.int 0), (.int 0)]), (.tuple [(.int 0), (.int 1)]), (.tuple [(.int 0), (.int 2)]), (.tuple [(.int 1), (.int 0)]), (.tuple [(.int 1), (.int 1)]), (.tuple [(.int 1), (.int 2)]), (.tuple [(.int 2), (.int 0)]), (.tuple [(.int 2), (.int 1)]), (.tuple [(.int 2), (.int 2)])])), some (.fr (.int 421)), some (.dk [(.inl 0, (.int 1)), (.inl 1, (.int 9)), (.inl 2, (.int 18)), (.inl 3, (.int 6))]), y7, some (.fr (.int 9)), none, none, none, none, none, y14, y15, y16]) := by kernel_rfl
theorem b33_7 (x y7 y14 y15 y16 : Option Ob) (s : Ob) : c7_law [x, some s, some (.fr (.int 3)), some (.fr (.int 3)), some (.fr (.list [(.tuple [(.int 0), (.int 0)]), (.tuple [(.int 0), (.int 1)]), (.tuple [(.int 0), (.int 2)]), (.tuple [(.int 1), (.int 0)]), (.tuple [(.int 1), (.int 1)]), (.tuple [(.int 1), (.int 2)]), (.tuple [(.int 2), (.int 0)]), (.tuple [(.int 2), (.int 1)]), (.tuple [(.int 2), (.int 2)])])), some (.fr (.int 421)), some (.dk [(.inl 0, (.int 1)), (.inl 1, (.int 9)), (.inl 2, (.int 18)), (.inl 3, (.int 6))]), y7, some (.fr (.int 9)), none, none, none, none, none, y14, y15, y16] = some (.nx [x, some s, some (.fr (.int 3)), some (.fr (.int 3)), some (.fr (.list [(.tuple [(.int 0), (.int 0)]), (.tuple [(.int 0), (.int 1)]), (.tuple [(.int 0), (.int 2)]), (.tuple [(.int 1), (.int 0)]), (.tuple [(.int 1), (.int 1)]), (.tuple [(.int 1), (.int 2)]), (.tuple [(.int 2), (.int 0)]), (.tuple [(.int 2), (.int 1)]), (.tuple [(.int 2), (.int 2)])])), some (.fr (.int 421)), some (.dk [(.inl 0, (.int 1)), (.inl 1, (.int 9)), (.inl 2, (.int 18)), (.inl 3, (.int 6))]), y7, some (.fr (.int 9)), none, none, none, none, none, y14, y15, y16]) := by kernel_rfl
theorem b33_8 (x y7 y14 y15 y16 : Option Ob) (s : Ob) : c8_law [x, some s, some (.fr (.int 3)), some (.fr (.int 3)), some (.fr (.list [(.tuple [(.int 0), (.int 0)]), (.tuple [(.int 0), (.int 1)]), (.tuple [(.int 0), (.int 2)]), (.tuple [(.int 1), (.int 0)]), (.tuple [(.int 1), (.int 1)]), (.tuple [(.int 1), (.int 2)]), (.tuple [(.int 2), (.int 0)]), (.tuple [(.int 2), (.int 1)]), (.tuple [(.int 2), (.int 2)])])), some (.fr (.int 421)), some (.dk [(.inl 0, (.int 1)), (.inl 1, (.int 9)), (.inl 2, (.int 18)), (.inl 3, (.int 6))]), y7, some (.fr (.int 9)), none, none, none, none, none, y14, y15, y16] = some (.nx [x, some s, some (.fr (.int 3)), some (.fr (.int 3)), some (.fr (.list [(.tuple [(.int 0), (.int 0)]), (.tuple [(.int 0), (.int 1)]), (.tuple [(.int 0), (.int 2)]), (.tuple [(.int 1), (.int 0)]), (.tuple [(.int 1), (.int 1)]), (.tuple [(.int 1), (.int 2)]), (.tuple [(.int 2), (.int 0)]), (.tuple [(.int 2), (.int 1)]), (.tuple [(.int 2), (.int 2)])])), some (.fr (.int 421)), some (.dk [(.inl 0, (.int 1)), (.inl 1, (.int 9)), (.inl 2, (.int 18)), (.inl 3, (.int 6))]), y7, some (.fr (.int 9)), none, none, none, none, none, y14, y15, y16]) := by kernel_rfl
theorem b33 (x : Option Ob) (s : Ob) (Q : Out → Prop) (k : ∀ y2 y3 y4 y5 y6 y7 y8 y14 y15 y16 : Option Ob, WS tail9 [x, some s, y2, y3, y4, y5, y6, y7, y8, none, none, none, none, none, y14, y15, y16] Q) : WS tail2 [x, some s, some (.fr (.int 3)), some (.fr (.int 3)), none, none, none, none, none, none, none, none, none, none, none, none, none] Q := by
  refine ws_nx (b33_2 x s) ?_
  refine ws_nx (b33_3 x s) ?_
  obtain ⟨r, e, a, b, c, d, rfl⟩ := b33_q0 x none none none none s
  refine ws_nx (ρ1 := [x, some s, some (.fr (.int 3)), some (.fr (.int 3)), some (.fr (.list [(.tuple [(.int 0), (.int 0)]), (.tuple [(.int 0), (.int 1)]), (.tuple [(.int 0), (.int 2)]), (.tuple [(.int 1), (.int 0)]), (.tuple [(.int 1), (.int 1)]), (.tuple [(.int 1), (.int 2)]), (.tuple [(.int 2), (.int 0)]), (.tuple [(.int 2), (.int 1)]), (.tuple [(.int 2), (.int 2)])])), some (.fr (.int 421)), some (.dk [(.inl 0, (.int 1)), (.inl 1, (.int 9)), (.inl 2, (.int 18)), (.inl 3, (.int 6))]), a, none, none, none, none, none, none, b, c, d]) ?_ ?_
  · unfold c4_law fFor
    rw [b33_i, Option.bind_some]
    exact e
  refine ws_nx (b33_5 x a b c d s) ?_
  refine ws_nx (b33_6 x a b c d s) ?_
  refine ws_nx (b33_7 x a b c d s) ?_
  refine ws_nx (b33_8 x a b c d s) ?_
  exact k _ _ _ _ _ _ _ _ _ _
theorem fm2 (x y4 y5 y6 y7 y8 y14 y15 y16 : Option Ob) (s : Ob) : (([0, 1, 2, 3, 4, 5, 6, 7] : List Int).map fun n => ([0, 1, 2, 3, 4, 5, 6, 7] : List Int).map fun k => nxW [2, 3, 4, 5, 6, 7, 8, 9, 10, 11, 12, 13, 14, 15, 16] tail10 [x, some s, some (.fr (.int 2)), some (.fr (.int (1 + n))), y4, y5, y6, y7, y8, some (.fr (.int (1 + k))), none, none, none, none, y14, y15, y16]) = (([0, 1, 2, 3, 4, 5, 6, 7] : List Int).map fun n => ([0, 1, 2, 3, 4, 5, 6, 7] : List Int).map fun k => some [x, some s, none, none, none, none, none, none, none, none, none, none, none, none, none, none, none]) := by kernel_rfl
theorem fm3 (x y4 y5 y6 y7 y8 y14 y15 y16 : Option Ob) (s : Ob) : (([0, 1, 2, 3, 4, 5, 6, 7] : List Int).map fun n => ([0, 1, 2, 3, 4, 5, 6, 7] : List Int).map fun k => nxW [2, 3, 4, 5, 6, 7, 8, 9, 10, 11, 12, 13, 14, 15, 16] tail10 [x, some s, some (.fr (.int 3)), some (.fr (.int (1 + n))), y4, y5, y6, y7, y8, some (.fr (.int (1 + k))), none, none, none, none, y14, y15, y16]) = (([0, 1, 2, 3, 4, 5, 6, 7] : List Int).map fun n => ([0, 1, 2, 3, 4, 5, 6, 7] : List Int).map fun k => some [x, some s, none, none, none, none, none, none, none, none, none, none, none, none, none, none, none]) := by kernel_rfl
theorem fm4 (x y4 y5 y6 y7 y8 y14 y15 y16 : Option Ob) (s : Ob) : (([0, 1, 2, 3, 4, 5, 6, 7] : List Int).map fun n => ([0, 1, 2, 3, 4, 5, 6, 7] : List Int).map fun k => nxW [2, 3, 4, 5, 6, 7, 8, 9, 10, 11, 12, 13, 14, 15, 16] tail10 [x, some s, some (.fr (.int 4)), some (.fr (.int (1 + n))), y4, y5, y6, y7, y8, some (.fr (.int (1 + k))), none, none, none, none, y14, y15, y16]) = (([0, 1, 2, 3, 4, 5, 6, 7] : List Int).map fun n => ([0, 1, 2, 3, 4, 5, 6, 7] : List Int).map fun k => some [x, some s, none, none, none, none, none, none, none, none, none, none, none, none, none, none, none]) := by kernel_rfl
theorem fm5 (x y4 y5 y6 y7 y8 y14 y15 y16 : Option Ob) (s : Ob) : (([0, 1, 2, 3, 4, 5, 6, 7] : List Int).map fun n => ([0, 1, 2, 3, 4, 5, 6, 7] : List Int).map fun k => nxW [2, 3, 4, 5, 6, 7, 8, 9, 10, 11, 12, 13, 14, 15, 16] tail10 [x, some s, some (.fr (.int 5)), some (.fr (.int (1 + n))), y4, y5, y6, y7, y8, some (.fr (.int (1 + k))), none, none, none, none, y14, y15, y16]) = (([0, 1, 2, 3, 4, 5, 6, 7] : List Int).map fun n => ([0, 1, 2, 3, 4, 5, 6, 7] : List Int).map fun k => some [x, some s, none, none, none, none, none, none, none, none, none, none, none, none, none, none, none]) := by kernel_rfl
theorem fm6 (x y4 y5 y6 y7 y8 y14 y15 y16 : Option Ob) (s : Ob) : (([0, 1, 2, 3, 4, 5, 6, 7] : List Int).map fun n => ([0, 1, 2, 3, 4, 5, 6, 7] : List Int).map fun k => nxW [2, 3, 4, 5, 6, 7, 8, 9, 10, 11, 12, 13, 14, 15, 16] tail10 [x, some s, some (.fr (.int 6)), some (.fr (.int (1 + n))), y4, y5, y6, y7, y8, some (.fr (.int (1 + k))), none, none, none, none, y14, y15, y16]) = (([0, 1, 2, 3, 4, 5, 6, 7] : List Int).map fun n => ([0, 1, 2, 3, 4, 5, 6, 7] : List Int).map fun k => some [x, some s, none, none, none, none, none, none, none, none, none, none, none, none, none, none, none]) := by kernel_rfl
theorem fm7 (x y4 y5 y6 y7 y8 y14 y15 y16 : Option Ob) (s : Ob) : (([0, 1, 2, 3, 4, 5, 6, 7] : List Int).map fun n => ([0, 1, 2, 3, 4, 5, 6, 7] : List Int).map fun k => nxW [2, 3, 4, 5, 6, 7, 8, 9, 10, 11, 12, 13, 14, 15, 16] tail10 [x, some s, some (.fr (.int 7)), some (.fr (.int (1 + n))), y4, y5, y6, y7, y8, some (.fr (.int (1 + k))), none, none, none, none, y14, y15, y16]) = (([0, 1, 2, 3, 4, 5, 6, 7] : List Int).map fun n => ([0, 1, 2, 3, 4, 5, 6, 7] : List Int).map fun k => some [x, some s, none, none, none, none, none, none, none, none, none, none, none, none, none, none, none]) := by kernel_rfl
theorem fm8 (x y4 y5 y6 y7 y8 y14 y15 y16 : Option Ob) (s : Ob) : (([0, 1, 2, 3, 4, 5, 6, 7] : List Int).map fun n => ([0, 1, 2, 3, 4, 5, 6, 7] : List Int).map fun k => nxW [2, 3, 4, 5, 6, 7, 8, 9, 10, 11, 12, 13, 14, 15, 16] tail10 [x, some s, some (.fr (.int 8)), some (.fr (.int (1 + n))), y4, y5, y6, y7, y8, some (.fr (.int (1 + k))), none, none, none, none, y14, y15, y16]) = (([0, 1, 2, 3, 4, 5, 6, 7] : List Int).map fun n => ([0, 1, 2, 3, 4, 5, 6, 7] : List Int).map fun k => some [x, some s, none, none, none, none, none, none, none, none, none, none, none, none, none, none, none]) := by kernel_rfl
end LW

namespace LW
open PySem PySem.Spec PyProof.Rows L2 DL
open Enc
theorem lt_sq2 (a b : Sq2) : PySem.W.dataLt (e a) (e b) = ltS a b := by
  obtain ⟨r, c⟩ := a
  obtain ⟨r', c'⟩ := b
  show PySem.W.dataLt (.tuple [.int r, .int c]) (.tuple [.int r', .int c']) = _
  rw [PySem.W.dataLt_tuple]
  simp only [PySem.W.keyToksAll, PySem.W.keyToks, List.cons_append, List.nil_append]
  have key : ∀ (x y : Nat) (l m : List (Int ⊕ List Nat)), PyProof.Rows.lexLt itemOrd (Sum.inl (x : Int) :: l) (Sum.inl (y : Int) :: m) = (Nat.blt x y || (Nat.beq x y && PyProof.Rows.lexLt itemOrd l m)) := by
    intro x y l m
    by_cases h : x = y
    · subst h
      rw [PyProof.Rows.lex_self]
      have h1 : Nat.blt x x = false := by rw [Bool.eq_false_iff]; intro h; rw [Nat.blt_eq] at h; omega
      rw [h1, Nat.beq_refl]; rfl
    · rw [PySem.W.lex_atom (fun q => h (by injection q with q; omega)), PySem.W.lex_one]
      have h1 : Nat.beq x y = false := by rw [Bool.eq_false_iff]; intro q; exact h (Nat.eq_of_beq_eq_true q)
      rw [h1, Bool.false_and, Bool.or_false]
      rw [Bool.eq_iff_iff, Nat.blt_eq]
      show decide ((x : Int) < y) = true ↔ _
      rw [decide_eq_true_iff]; omega
  rw [PyProof.Rows.lex_self, key, PyProof.Rows.lex_self, key, PyProof.Rows.lex_self]
  have h0 : PyProof.Rows.lexLt itemOrd [] [] = false := rfl
  rw [h0, Bool.and_false, Bool.or_false]
  rfl
theorem gt_sq2 (a b : Sq2) : gtA (ev a) (ev b) = some (fB (ltS b a)) := by
  have h1 : cmpOk (e a) (e b) = true := by
    show cmpOk (.tuple [.int a.1, .int a.2]) (.tuple [.int b.1, .int b.2]) = true
    simp [cmpOk, PySem.W.alike, PySem.W.alikeAll, shal, shalAll, notNone]
  have h2 : gtO (ev a) (ev b) = some (fB (ltS b a)) := by
    show (if cmpOk (e a) (e b) = true then some (fB (PySem.W.dataLt (e b) (e a))) else none) = _
    rw [h1, if_pos rfl, lt_sq2]
  have h3 : gtI (ev a) (ev b) = none := rfl
  unfold gtA
  rw [h3, h2]
/-! ## the levels are what the law makes -/
abbrev acl2 (l : List (List Sq2)) : Option Ob := some (.acc l.length (l.map e).reverse)
theorem fApp_acl {ρ : DL.Env} {i : Nat} {l : List (List Sq2)} {f : F1} {s : List Sq2} (hi : ρ[i]? = some (acl2 l)) (hf : f ρ = some (ev s)) (hn : l.length < 16777216) : fApp i f ρ = some (.nx (ρ.set i (acl2 (l ++ [s])))) := by
  unfold fApp
  rw [hf, Option.bind_some]
  show ((some (e s)).bind _) = _
  rw [Option.bind_some, hi]
  show (if lt24 l.length = true then _ else none) = _
  rw [if_pos (show lt24 l.length = true from Nat.ble_eq.mpr hn)]
  simp [acl2]
theorem tup_cat {l m : List PyData} (h : (l ++ m).length ≤ 16777216) : addO (.fr (.tuple l)) (.fr (.tuple m)) = some (.fr (.tuple (l ++ m))) := by
  have h1 : addI (.fr (.tuple l)) (.fr (.tuple m)) = none := rfl
  have h2 : catT (.fr (.tuple l)) (.fr (.tuple m)) = some (.fr (.tuple (l ++ m))) := by
    show (if short (l ++ m) = true then some (Ob.fr (.tuple (l ++ m))) else none) = _
    rw [if_pos (short_le h)]
  unfold addO
  rw [h1, h2]
theorem ixD_end {l : List PyData} {d : PyData} {k : Nat} (h : k = l.length) : ixD (l ++ [d]) (k : Int) = some d := by
  subst h
  show (l ++ [d])[l.length]? = some d
  simp
abbrev wbd : FS := (fIf (bOr (bO (o2 eqO (rdV 6) (dTup aNil))) (bO (o2 gtA (rdV 7) (o2 ixA (rdV 6) (o2 subI (oL (g1 lenA) (lCons (rdV 6) lNil)) (kO (.int 1))))))) (fIf (bO (o2 eqO (oLc 10 [8, 9] (iSeq (frV 6)) (gT 2 (gCons' (gN 8) (gCons' (gN 9) gNil'))) (bOr (bO (o2 eqO (rdV 8) (o2 ixA (rdV 7) (kO (.int 0))))) (bO (o2 eqO (rdV 9) (o2 ixA (rdV 7) (kO (.int 1)))))) (kO (.int 1))) (dLst aNil))) (fApp 5 (o2 addO (rdV 6) (dTup (aCons (frV 7) aNil)))) fNx) fNx)
theorem within_turn (x0 x1 x2 x3 x4 x8 x9 : Option Ob) (acc : List (List Sq2)) (s : List Sq2) (q : Sq2) (ha : acc.length < 10000000) (hs : s.length ≤ 10000) :
    wbd [x0, x1, x2, x3, x4, acl2 acc, sv s, sv q, x8, x9] = some (.nx [x0, x1, x2, x3, x4, acl2 (acc ++ if (above s q && okS s q) = true then [s ++ [q]] else []), sv s, sv q, x8, x9]) := by
  have h1 : (bOr (bO (o2 eqO (rdV 6) (dTup aNil))) (bO (o2 gtA (rdV 7) (o2 ixA (rdV 6) (o2 subI (oL (g1 lenA) (lCons (rdV 6) lNil)) (kO (.int 1))))))) [x0, x1, x2, x3, x4, acl2 acc, sv s, sv q, x8, x9] = some (above s q) := by
    rcases List.eq_nil_or_concat s with rfl | ⟨s', z, rfl⟩
    · exact bOr_eq (b := true) (c := true) (bO_eq (o2_eq (y := ev ([] : List Sq2)) rfl rfl (eqO_e (by decide) [] []))) fun h => nomatch h
    · rw [List.concat_eq_append, above_snoc]
      have h0 : decide (s' ++ [z] = []) = false := decide_eq_false (by simp)
      have := bOr_eq (b := false) (c := ltS z q) (f := bO (o2 eqO (rdV 6) (dTup aNil))) (g := (bO (o2 gtA (rdV 7) (o2 ixA (rdV 6) (o2 subI (oL (g1 lenA) (lCons (rdV 6) lNil)) (kO (.int 1))))))) (ρ := [x0, x1, x2, x3, x4, acl2 acc, sv (s' ++ [z]), sv q, x8, x9]) (bO_eq (by
          rw [← h0]
          exact o2_eq (y := ev ([] : List Sq2)) rfl rfl (eqO_e (by decide) (s' ++ [z]) []))) fun _ => bO_eq (o2_eq (x := ev q) (y := ev z) rfl (o2_eq (x := ev (s' ++ [z])) (y := .fr (.int (s'.length : Nat))) rfl (o2_eq (x := .fr (.int ((s' ++ [z]).length : Nat))) (y := .fr (.int 1)) ?_ rfl ?_) ?_) (gt_sq2 q z))
      · exact this
      · show some (Ob.fr (.int (((s' ++ [z]).map e).length : Nat))) = _
        rw [List.length_map]
      · show some (Ob.fr (.int (((s' ++ [z]).length : Nat) - 1))) = _
        rw [List.length_append, List.length_singleton]
        congr 3; omega
      · show ((ixD ((s' ++ [z]).map e) (s'.length : Nat)).bind fun d => some (Ob.fr d)) = _
        rw [List.map_append, List.map_singleton, ixD_end (by rw [List.length_map])]; rfl
  have h2 : bO (o2 eqO (oLc 10 [8, 9] (iSeq (frV 6)) (gT 2 (gCons' (gN 8) (gCons' (gN 9) gNil'))) (bOr (bO (o2 eqO (rdV 8) (o2 ixA (rdV 7) (kO (.int 0))))) (bO (o2 eqO (rdV 9) (o2 ixA (rdV 7) (kO (.int 1)))))) (kO (.int 1))) (dLst aNil)) [x0, x1, x2, x3, x4, acl2 acc, sv s, sv q, x8, x9] = some (okS s q) := by
    have hl := oLc_eq (ρ := [x0, x1, x2, x3, x4, acl2 acc, sv s, sv q, x8, x9]) (n := 10) (vs := [8, 9]) (fi := iSeq (frV 6)) (ga := gT 2 (gCons' (gN 8) (gCons' (gN 9) gNil'))) (tt := (bOr (bO (o2 eqO (rdV 8) (o2 ixA (rdV 7) (kO (.int 0))))) (bO (o2 eqO (rdV 9) (o2 ixA (rdV 7) (kO (.int 1))))))) (te := kO (.int 1)) s e (fun z => decide (z.1 = q.1) || decide (z.2 = q.2)) (fun _ => PyData.int 1) rfl rfl (by omega) fun z _ => ⟨[x0, x1, x2, x3, x4, acl2 acc, sv s, sv q, sv z.1, sv z.2], rfl, bOr_eq (bO_eq (o2_eq (x := ev z.1) (y := ev q.1) rfl rfl (eqO_e (by decide) z.1 q.1))) fun _ => bO_eq (o2_eq (x := ev z.2) (y := ev q.2) rfl rfl (eqO_e (by decide) z.2 q.2)), fun _ => ⟨_, rfl, rfl⟩⟩
    have e1 : okS s q = decide (s.filter (fun z => decide (z.1 = q.1) || decide (z.2 = q.2)) = []) := by
      rw [Bool.eq_iff_iff, decide_eq_true_iff, List.filter_eq_nil_iff]
      unfold okS
      rw [List.all_eq_true]
      refine forall_congr' fun z => forall_congr' fun _ => ?_
      rw [Bool.not_eq_true', Bool.or_eq_false_iff, Bool.or_eq_true, decide_eq_true_iff, decide_eq_true_iff, ← Bool.not_eq_true, ← Bool.not_eq_true, Nat.beq_eq, Nat.beq_eq]
      omega
    rw [e1]
    have hm : ∀ l : List Sq2, l.map (fun _ => PyData.int 1) = (l.map fun _ => (1 : Nat)).map e := fun l => by rw [List.map_map]; rfl
    rw [hm] at hl
    refine bO_eq (o2_eq hl (y := .lst []) rfl ?_)
    rw [eqO_l (α := Nat) (m := []) (by decide) rfl rfl]
    congr 2
    simp
  unfold wbd fIf
  rw [h1, Option.bind_some]
  cases ha1 : above s q with
  | false =>
    rw [if_neg Bool.false_ne_true, Bool.false_and, if_neg Bool.false_ne_true, List.append_nil]; rfl
  | true =>
    rw [if_pos rfl, h2, Option.bind_some]
    cases ho : okS s q with
    | false => rw [if_neg Bool.false_ne_true, Bool.and_false, if_neg Bool.false_ne_true, List.append_nil]; rfl
    | true =>
      rw [if_pos rfl, Bool.and_self, if_pos rfl]
      refine fApp_acl (s := s ++ [q]) rfl (o2_eq (x := ev s) (y := .fr (.tuple [e q])) rfl rfl ?_) (by omega)
      rw [show ev (s ++ [q]) = .fr (.tuple (s.map e ++ [e q])) from by show Ob.fr (.tuple ((s ++ [q]).map e)) = _; rw [List.map_append]; rfl]
      exact tup_cat (by simp; omega)
abbrev cntD (L : List Sq2) (j : Nat) : List PyData := (List.range j).map fun k => PyData.int ((lev L k).length : Nat)
theorem lev_pow {L : List Sq2} (hL : Asc L) (hlen : L.length ≤ 8) (k : Nat) : (lev L k).length ≤ 256 := by
  rw [lev_X hL]
  refine Nat.le_trans (Xn_pow L [] k) ?_
  exact Nat.pow_le_pow_right (by omega) hlen
theorem lev_el {L : List Sq2} : ∀ {k : Nat} {s : List Sq2}, s ∈ lev L k → s.length = k
  | 0, s, h => by
    rw [lev, List.mem_singleton] at h
    subst h; rfl
  | k + 1, s, h => by
    rw [lev, List.mem_flatMap] at h
    obtain ⟨z, h1, h2⟩ := h
    obtain ⟨q, _, rfl⟩ := List.mem_map.mp h2
    rw [List.length_append, lev_el h1]; rfl
def nx (L s : List Sq2) : List (List Sq2) := (extS L s).map fun q => s ++ [q]
theorem nx_flat (L s : List Sq2) : nx L s = L.flatMap fun q => if (above s q && okS s q) = true then [s ++ [q]] else [] := by
  unfold nx extS
  induction L with
  | nil => rfl
  | cons q L ih =>
    rw [List.flatMap_cons]
    cases h : above s q && okS s q with
    | true => rw [List.filter_cons_of_pos (by rw [h]), List.map_cons, ih, if_pos rfl]; rfl
    | false => rw [List.filter_cons_of_neg (by rw [h]; decide), ih, if_neg Bool.false_ne_true]; rfl
theorem S_within (a b : PyData) {L : List Sq2} (hL : Asc L) (hlen : L.length ≤ 8) : ∃ j, lev L j = [] ∧ (∀ i, i < j → lev L i ≠ []) ∧ F__law_within [a, b, e L] = some (.lst (cntD L j)) := by
  have main : WS b__law_within (startE 10 [a, b, e L]) (fun r => ∃ j t, lev L j = [] ∧ (∀ i, i < j → lev L i ≠ []) ∧ r = .rt (.lst (cntD L j)) t) := by
    unfold b__law_within
    refine ws_nx (ρ1 := [some (.fr a), some (.fr b), sv L, some (.lst [.int 1]), some (.lst [.tuple []]), none, none, none, none, none]) rfl ?_
    refine ws_nx (ρ1 := [some (.fr a), some (.fr b), sv L, some (.fr (.list [.int 1])), some (.lst [.tuple []]), none, none, none, none, none]) rfl ?_
    refine ws_nx (ρ1 := [some (.fr a), some (.fr b), sv L, some (.fr (.list (cntD L 1))), some (.fr (DL.lv (lev L 0))), none, none, none, none, none]) rfl ?_
    refine ws_wh (L.length + 1) (fun k ρ => ∃ j x5 x6 x7 x8 x9, k + j = L.length + 1 ∧ (∀ i, i < j → lev L i ≠ []) ∧ ρ = [some (.fr a), some (.fr b), sv L, some (.fr (.list (cntD L (j + 1)))), some (.fr (DL.lv (lev L j))), x5, x6, x7, x8, x9]) ⟨0, none, none, none, none, none, by omega, fun i h => by omega, rfl⟩ (by show _ < 65536; omega) ?_
    rintro k ρ ⟨j, x5, x6, x7, x8, x9, hk, hall, rfl⟩
    refine ⟨!decide (lev L j = []), bO_eq (o2_eq (y := .lst []) rfl rfl (neO_l (m := ([] : List (List Sq2))) (by decide) rfl rfl)), fun hb => ?_, fun hb => ?_⟩
    · have hne : lev L j ≠ [] := fun q => by rw [decide_eq_true q] at hb; cases hb
      have hj : j ≤ L.length := by
        by_cases c : j ≤ L.length
        · exact c
        · have := Xn_many L [] j (by omega)
          rw [← lev_X hL, List.length_eq_zero_iff] at this
          exact absurd this hne
      refine ws_nx (ρ1 := [some (.fr a), some (.fr b), sv L, some (.fr (.list (cntD L (j + 1)))), some (.fr (DL.lv (lev L j))), some (.lst []), x6, x7, x8, x9]) rfl ?_
      refine ws_nx (ρ1 := [some (.fr a), some (.fr b), sv L, some (.fr (.list (cntD L (j + 1)))), some (.fr (DL.lv (lev L j))), acl2 [], x6, x7, x8, x9]) rfl ?_
      refine ws_for (lev L j) e (fun dn td ρ => ∃ x6 x7, ρ = [some (.fr a), some (.fr b), sv L, some (.fr (.list (cntD L (j + 1)))), some (.fr (DL.lv (lev L j))), acl2 (dn.flatMap (nx L)), x6, x7, x8, x9]) rfl ⟨x6, x7, rfl⟩ (fun dn s td ρ ⟨x6, x7, hρ⟩ hdn => ?_) fun ρ ⟨x6, x7, hρ⟩ => ?_
      · subst hρ
        have hsl : s.length = j := lev_el (show s ∈ lev L j by rw [← hdn]; simp)
        have hb1 : (dn.flatMap (nx L) ++ nx L s).length ≤ 256 := by
          have hsub : List.Sublist (dn.flatMap (nx L) ++ nx L s) (lev L (j + 1)) := by
            show List.Sublist _ ((lev L j).flatMap (nx L))
            rw [← hdn, List.flatMap_append, List.flatMap_cons, ← List.append_assoc]
            exact List.sublist_append_left _ _
          exact Nat.le_trans hsub.length_le (lev_pow hL hlen (j + 1))
        refine ⟨[some (.fr a), some (.fr b), sv L, some (.fr (.list (cntD L (j + 1)))), some (.fr (DL.lv (lev L j))), acl2 (dn.flatMap (nx L)), sv s, x7, x8, x9], rfl, ?_⟩
        refine ws_for1 L e (fun d2 t2 ρ => ∃ x7, ρ = [some (.fr a), some (.fr b), sv L, some (.fr (.list (cntD L (j + 1)))), some (.fr (DL.lv (lev L j))), acl2 (dn.flatMap (nx L) ++ d2.flatMap fun q => if (above s q && okS s q) = true then [s ++ [q]] else []), sv s, x7, x8, x9]) rfl ⟨x7, by simp⟩ (fun d2 q t2 ρ ⟨x7, hρ⟩ hd2 => ?_) fun ρ ⟨x7, hρ⟩ => ?_
        · subst hρ
          refine ⟨_, rfl, ws_1 (within_turn _ _ _ _ _ _ _ _ s q ?_ (by omega)) ⟨sv q, ?_⟩⟩
          · have hsub : List.Sublist (d2.flatMap fun q => if (above s q && okS s q) = true then [s ++ [q]] else []) (nx L s) := by
              rw [nx_flat, ← hd2, List.flatMap_append]
              exact List.sublist_append_left _ _
            have := hsub.length_le
            rw [List.length_append] at hb1 ⊢
            omega
          · rw [List.flatMap_append, List.append_assoc]
            simp
        · subst hρ
          refine ⟨sv s, x7, ?_⟩
          rw [List.flatMap_append, ← nx_flat]
          simp
      · subst hρ
        have hlen2 := lev_pow hL hlen (j + 1)
        refine ws_nx (ρ1 := [some (.fr a), some (.fr b), sv L, some (.fr (.list (cntD L (j + 1)))), some (.fr (DL.lv (lev L j))), some (.fr (DL.lv (lev L (j + 1)))), x6, x7, x8, x9]) ?_ ?_
        · show some (Out.nx [_, _, _, _, _, some (.fr (.list (((lev L j).flatMap (nx L)).map e).reverse.reverse)), _, _, _, _]) = _
          rw [List.reverse_reverse]; rfl
        have hcat : o2 addO (rdV 3) (dLst (aCons (oL (g1 lenA) (lCons (rdV 5) lNil)) aNil)) [some (.fr a), some (.fr b), sv L, some (.fr (.list (cntD L (j + 1)))), some (.fr (DL.lv (lev L j))), some (.fr (DL.lv (lev L (j + 1)))), x6, x7, x8, x9] = some (.lst (cntD L (j + 2))) := by
          have hc : cntD L (j + 2) = cntD L (j + 1) ++ [.int ((lev L (j + 1)).length : Nat)] := by
            show (List.range (j + 1 + 1)).map _ = _
            rw [List.range_succ, List.map_append]; rfl
          rw [hc]
          refine o2_eq (x := .fr (.list (cntD L (j + 1)))) (y := .lst [.int ((lev L (j + 1)).length : Nat)]) rfl ?_ ?_
          · show some (Ob.lst [.int (((lev L (j + 1)).map e).length : Nat)]) = _
            rw [List.length_map]
          · have h1 : addI (.fr (.list (cntD L (j + 1)))) (.lst [.int ((lev L (j + 1)).length : Nat)]) = none := rfl
            have h2 : catT (.fr (.list (cntD L (j + 1)))) (.lst [.int ((lev L (j + 1)).length : Nat)]) = none := rfl
            unfold addO
            rw [h1, h2]
            show (if short (cntD L (j + 1) ++ [.int ((lev L (j + 1)).length : Nat)]) = true then some (Ob.lst _) else none) = _
            rw [if_pos (short_le (by simp; omega))]
        refine ws_nx (ρ1 := [some (.fr a), some (.fr b), sv L, some (.lst (cntD L (j + 2))), some (.fr (DL.lv (lev L (j + 1)))), some (.fr (DL.lv (lev L (j + 1)))), x6, x7, x8, x9]) (fPar_eq (lCons_eq hcat (lCons_eq rfl rfl)) rfl) ?_
        refine ws_nx (ρ1 := [some (.fr a), some (.fr b), sv L, some (.fr (.list (cntD L (j + 2)))), some (.fr (DL.lv (lev L (j + 1)))), some (.fr (DL.lv (lev L (j + 1)))), x6, x7, x8, x9]) rfl ?_
        refine ⟨_, rfl, k - 1, by omega, j + 1, _, _, _, _, _, by omega, fun i hi => ?_, rfl⟩
        by_cases c : i = j
        · subst c; exact hne
        · exact hall i (by omega)
    · have he : lev L j = [] := by
        by_cases q : lev L j = []
        · exact q
        · rw [decide_eq_false q] at hb; cases hb
      refine ws_rt (o := .lst (cntD L j)) ?_ ⟨j, _, he, hall, rfl⟩
      show some (Ob.lst (DL.cutD (cntD L (j + 1)) none (some (((cntD L (j + 1)).length : Nat) - 1)))) = _
      have h1 : (cntD L (j + 1)).length = j + 1 := by simp
      rw [h1, show ((j + 1 : Nat) : Int) - 1 = (j : Nat) from by omega]
      have h2 : DL.cutD (cntD L (j + 1)) none (some ((j : Nat) : Int)) = (cntD L (j + 1)).take j := by
        have q : ∀ n : Nat, cutAt n 0 none = 0 := fun n => rfl
        have q2 : cutAt (cntD L (j + 1)).length (cntD L (j + 1)).length (some ((j : Nat) : Int)) = j := by
          rw [h1]
          show min j (j + 1) = j
          omega
        unfold DL.cutD
        rw [q, q2]; rfl
      rw [h2]
      have h3 : cntD L (j + 1) = cntD L j ++ [.int ((lev L j).length : Nat)] := by
        show (List.range (j + 1)).map _ = _
        rw [List.range_succ, List.map_append]; rfl
      rw [h3, List.take_left' (by simp)]
  obtain ⟨r, e1, j, t, h1, h2, rfl⟩ := main
  refine ⟨j, h1, h2, ?_⟩
  show fnOf 10 b__law_within [a, b, e L] = _
  unfold fnOf
  rw [e1]; rfl
end LW

namespace LW
open PySem PySem.Spec PyProof.Rows L2 DL
open Enc
theorem we_1L {g : List Ob → Option Ob} {f : FE} {ρ : DL.Env} {Q : Ob → DL.Env → Prop} (h : WE f ρ fun o ρ' => ∃ d, fz o = some d ∧ ∃ r, g [.fr d] = some r ∧ Q r ρ') : WE (e1L g f) ρ Q := by
  obtain ⟨o, ρ', e1, d, h1, r, h2, q⟩ := h
  refine ⟨r, ρ', ?_, q⟩
  unfold e1L
  rw [e1, Option.bind_some, h1, Option.bind_some, h2]; rfl
theorem we_slT {f g : FE} {ρ : DL.Env} {Q : Ob → DL.Env → Prop} (h : WE f ρ fun o ρ' => ∃ d, fz o = some d ∧ WE g ρ' fun o' ρ2 => ∃ i, o' = .fr (.int i) ∧ ∃ r, slO (.fr d) none (some i) = some r ∧ Q r ρ2) : WE (eSl f oNoneE (oSomeE g)) ρ Q := by
  obtain ⟨o, ρ', e1, d, h1, o', ρ2, e2, i, rfl, r, h2, q⟩ := h
  refine ⟨r, ρ2, ?_, q⟩
  unfold eSl oNoneE oSomeE
  rw [e1, Option.bind_some, h1, Option.bind_some, Option.bind_some]
  show ((((g ρ').bind _).bind _) : Option _) = _
  rw [e2, Option.bind_some]
  show (((some (some i, ρ2) : Option _).bind _) : Option _) = _
  rw [Option.bind_some, h2]; rfl
theorem perm_map_ex {α β : Type} (f : α → β) {m ys : List β} (h : m.Perm ys) : ∀ l : List α, m = l.map f → ∃ zs, l.Perm zs ∧ ys = zs.map f := by
  induction h with
  | nil => intro l e; exact ⟨l, List.Perm.refl _, e⟩
  | cons x p ih =>
    intro l e
    cases l with
    | nil => cases e
    | cons a l =>
      rw [List.map_cons] at e
      injection e with e1 e2
      obtain ⟨zs, h1, h2⟩ := ih l e2
      exact ⟨a :: zs, h1.cons a, by rw [List.map_cons, e1, h2]⟩
  | swap x y p =>
    intro l e
    cases l with
    | nil => cases e
    | cons a l =>
      cases l with
      | nil => cases e
      | cons b l =>
        rw [List.map_cons, List.map_cons] at e
        injection e with e1 e2
        injection e2 with e2 e3
        exact ⟨b :: a :: l, List.Perm.swap _ _ _, by rw [List.map_cons, List.map_cons, e1, e2, e3]⟩
  | trans p q ih1 ih2 =>
    intro l e
    obtain ⟨zs, h1, h2⟩ := ih1 l e
    obtain ⟨ws, h3, h4⟩ := ih2 zs h2
    exact ⟨ws, h1.trans h3, h4⟩
theorem ltS_lte (a b : Sq2) : lte a b ↔ ltS a b = true := by
  rw [lte_nn]
  unfold ltS
  rw [Bool.or_eq_true, Bool.and_eq_true, Nat.blt_eq, Nat.blt_eq, Nat.beq_eq]
/-- the lot that is drawn -/
theorem lot_made {B : List Sq2} (hB : Asc B) (hn : B.Nodup) {ys : List PyData} (hp : ys.Perm (B.map e)) (k : Nat) (hk : k ≤ 1000) : ∃ L : List Sq2, L.Sublist B ∧ Asc L ∧ L.length ≤ k ∧ sortA (.fr (.list (ys.take k))) = some (.lst (L.map e)) := by
  obtain ⟨zs, h1, rfl⟩ := perm_map_ex e hp.symm B rfl
  have nz : zs.Nodup := (h1.nodup_iff).mp hn
  have nt : (zs.take k).Nodup := (List.take_sublist k zs).nodup nz
  have hsub : (B.filter fun q => decide (q ∈ zs.take k)).Sublist B := List.filter_sublist
  have hA : Asc (B.filter fun q => decide (q ∈ zs.take k)) := List.Pairwise.sublist hsub hB
  have hmem : ∀ x, x ∈ zs.take k ↔ x ∈ B.filter fun q => decide (q ∈ zs.take k) := fun x => by
    rw [List.mem_filter, decide_eq_true_iff]
    exact ⟨fun h => ⟨h1.mem_iff.mpr (List.mem_of_mem_take h), h⟩, fun h => h.2⟩
  refine ⟨_, hsub, hA, ?_, ?_⟩
  · have := ((List.perm_ext_iff_of_nodup nt (hsub.nodup hn)).mpr hmem).length_eq
    rw [← this, List.length_take]; omega
  · rw [← List.map_take]
    exact sortA_fr (okSort_nn _) (by rw [List.length_map, List.length_take]; omega) (isort_e (okSort_nn _) nt (hA.imp fun {a b} q => (ltS_lte a b).mpr q) hmem)
theorem enum_map {α : Type} [DecidableEq α] [Enc α] (f : Nat → α) : ∀ (j i : Nat), enumD i ((List.range' i j).map fun k => e (f k)) = (List.range' i j).map fun (k : Nat) => PyData.tuple [.int (k : Nat), e (f k)]
  | 0, i => rfl
  | j + 1, i => by
    rw [List.range'_succ, List.map_cons, List.map_cons, enumD, enum_map f j (i + 1)]
theorem enum_sqs : ∀ (p : List Nat) (i : Nat), enumD i (p.map e) = (sqsF i p).map e
  | [], i => rfl
  | c :: p, i => by rw [List.map_cons, enumD, enum_sqs p (i + 1), sqsF, List.map_cons]; rfl
theorem sqs_len : ∀ (p : List Nat) (i : Nat), (sqsF i p).length = p.length
  | [], _ => rfl
  | c :: p, i => by rw [sqsF, List.length_cons, sqs_len p (i + 1)]; rfl
theorem mul_r {i j : Int} (h : DL.small64 j = true) : mulO (.fr (.int i)) (.fr (.int j)) = some (.fr (.int (i * j))) := mulO_r h

theorem arrR1 : F__law_arrangements [.int 1] = some (.fr (.list ((arr 1).map e))) := by kernel_rfl
theorem asc1 : Asc (sqB 1) := by unfold Asc; decide +kernel
theorem nod1 : (sqB 1).Nodup := by decide +kernel
theorem pe1_0 : ((((arr 1).drop 0).take 1).map fun p => F_is_at_peace [.str (PySem.Str.ofString "rook"), .int 1, .int 1, e (sqsF 0 p)]) = (((arr 1).drop 0).take 1).map fun _ => some (.fr (.bool true)) := by kernel_rfl
theorem arl1 : (arr 1).all (fun p => Nat.beq p.length 1) = true := by kernel_rfl
theorem sp1 : arr 1 = ((arr 1).drop 0).take 1 := by kernel_rfl
theorem peace1 : ∀ p ∈ arr 1, F_is_at_peace [.str (PySem.Str.ofString "rook"), .int 1, .int 1, e (sqsF 0 p)] = some (.fr (.bool true)) := by
  intro p hp
  rw [sp1] at hp
  rcases hp with hp
  · exact map_eq pe1_0 p hp
theorem lotw1 (s : Ob) (hs : IsS s) : WE (e1L (g1 tupO) (e1L (g1 sortA) (eSl (eCallB 0 1 F__law_mixed (eaCons (eP (dCall 2 F__law_squares (aCons (frV 1) (aCons (frV 1) aNil)))) eaNil)) oNoneE (oSomeE (eCallB 0 1 F__law_pick (eaCons (eP (oL (g2 min2O) (lCons (kO (.int 7)) (lCons (o2 addO (o2 mulO (rdV 1) (rdV 1)) (kO (.int 1))) lNil)))) eaNil)))))) [some s, some (.fr (.int 1)), none, none, none, none, none, none, none, none, none, none, none, none, none, none] (fun o ρ' => ∃ L : List Sq2, ∃ s', L.Sublist (sqB 1) ∧ Asc L ∧ L.length ≤ 6 ∧ IsS s' ∧ o = ev L ∧ ρ' = [some s', some (.fr (.int 1)), none, none, none, none, none, none, none, none, none, none, none, none, none, none]) := by
  obtain ⟨ys, s1, e1, hp, hs1⟩ := mixed_run pick_ok hs ((sqB 1).map e) (by show _ ≤ 60000; exact Nat.le_of_ble_eq_true rfl)
  refine we_1L (we_1L (we_slT (we_callB ⟨s, rfl⟩ ⟨[.list ((sqB 1).map e)], [some s, some (.fr (.int 1)), none, none, none, none, none, none, none, none, none, none, none, none, none, none], by kernel_rfl, rfl, s, .fr (.list ys), s1, rfl, e1, .list ys, rfl, ?_⟩)))
  refine we_pick pick_ok (many := 2) hs1 rfl (by decide) (by decide) fun v s2 h0 h1 hs2 => ⟨v, rfl, ?_⟩
  obtain ⟨k, rfl⟩ : ∃ k : Nat, v = (k : Int) := ⟨v.toNat, by omega⟩
  obtain ⟨L, l1, l2, l3, l4⟩ := lot_made asc1 nod1 hp k (by omega)
  refine ⟨.lst (ys.take k), ?_, .list (ys.take k), rfl, .lst (L.map e), l4, .list (L.map e), rfl, ev L, rfl, L, s2, l1, l2, by omega, hs2, rfl, rfl⟩
  show some (Ob.lst (DL.cutD ys none (some ((k : Nat) : Int)))) = _
  have q : DL.cutD ys none (some ((k : Nat) : Int)) = ys.take k := by
    show (ys.drop 0).take (min k ys.length - 0) = _
    rw [List.drop_zero, Nat.sub_zero, List.take_eq_take_iff]; omega
  rw [q]
def gL1 (L : List Sq2) (k : Nat) : Int := ((lev L k).length : Int) * fac (1 - k)
theorem due1 (s : Ob) (L : List Sq2) (j k : Nat) (z : Int) (hk : k ≤ 1) (hl : (lev L k).length ≤ 256) : (fSeq (fSet 3 (o2 addO (rdV 3) (o2 mulO (o2 mulO (rdV 7) (o2 ixA (rdV 5) (o2 subI (rdV 1) (rdV 6)))) (oIf (bO (o2 eqO (o2 mulO (o2 divI (rdV 6) (kO (.int 2))) (kO (.int 2))) (rdV 6))) (kO (.int 1)) (o2 subI (kO (.int 0)) (kO (.int 1))))))) (fSeq (fFz 3) fNx)) [some s, some (.fr (.int 1)), sv L, some (.fr (.int z)), some (.fr (.list (cntD L j))), some (.acc 2 [.int 1, .int 1]), some (.fr (.int (k : Nat))), some (.fr (.int ((lev L k).length : Nat))), none, none, none, none, none, none, none, none] = some (.nx [some s, some (.fr (.int 1)), sv L, some (.fr (.int (z + gL1 L k * sgn k))), some (.fr (.list (cntD L j))), some (.acc 2 [.int 1, .int 1]), some (.fr (.int (k : Nat))), some (.fr (.int ((lev L k).length : Nat))), none, none, none, none, none, none, none, none]) := by
  obtain ⟨c, hc⟩ : ∃ c, (lev L k).length = c := ⟨_, rfl⟩
  rw [hc]
  have hk2 : k = 0 ∨ k = 1 := by omega
  unfold gL1
  rw [hc]
  rcases hk2 with rfl | rfl
  · refine (fSeq_nx (ρ' := [some s, some (.fr (.int 1)), sv L, some (.fr (.int (z + ((c : Nat) : Int) * (1 : Int) * (1 : Int)))), some (.fr (.list (cntD L j))), some (.acc 2 [.int 1, .int 1]), some (.fr (.int 0)), some (.fr (.int (c : Nat))), none, none, none, none, none, none, none, none]) ?_).trans rfl
    unfold fSet
    rw [o2_eq (z := .fr (.int (z + ((c : Nat) : Int) * (1 : Int) * (1 : Int)))) (x := .fr (.int z)) (y := .fr (.int (((c : Nat) : Int) * (1 : Int) * (1 : Int)))) rfl (o2_eq (x := .fr (.int (((c : Nat) : Int) * (1 : Int)))) (y := .fr (.int (1))) (o2_eq (x := .fr (.int ((c : Nat) : Int))) (y := .fr (.int 1)) rfl rfl (mul_r rfl)) rfl (mul_r rfl)) rfl]
    rfl
  · refine (fSeq_nx (ρ' := [some s, some (.fr (.int 1)), sv L, some (.fr (.int (z + ((c : Nat) : Int) * (1 : Int) * (-1 : Int)))), some (.fr (.list (cntD L j))), some (.acc 2 [.int 1, .int 1]), some (.fr (.int 1)), some (.fr (.int (c : Nat))), none, none, none, none, none, none, none, none]) ?_).trans rfl
    unfold fSet
    rw [o2_eq (z := .fr (.int (z + ((c : Nat) : Int) * (1 : Int) * (-1 : Int)))) (x := .fr (.int z)) (y := .fr (.int (((c : Nat) : Int) * (1 : Int) * (-1 : Int)))) rfl (o2_eq (x := .fr (.int (((c : Nat) : Int) * (1 : Int)))) (y := .fr (.int (-1))) (o2_eq (x := .fr (.int ((c : Nat) : Int))) (y := .fr (.int 1)) rfl rfl (mul_r rfl)) rfl (mul_r rfl)) rfl]
    rfl
theorem row1 (s : Ob) (L : List Sq2) (j : Nat) (x3 x6 x7 x12 x13 x14 x15 : Option Ob) (z : Int) (p : List Nat) (hp : p ∈ arr 1) (hL : L.length ≤ 6) : (fSeq (fSet 12 (oL (g1 tupO) (lCons (oLc 16 [13, 14] (iEnumD (aCons (frV 9) aNil)) (gT 2 (gCons' (gN 13) (gCons' (gN 14) gNil'))) bYes (dTup (aCons (frV 13) (aCons (frV 14) aNil)))) lNil))) (fSeq (fIf (bO (o2 isnO (dCall 4 F_is_at_peace (aCons (kO (.str (PySem.Str.ofString "rook"))) (aCons (frV 1) (aCons (frV 1) (aCons (frV 12) aNil))))) (kO (.bool true)))) (fRet (kO (.bool false))) fNx) (fSeq (fSet 8 (o2 addO (rdV 8) (oL (g1 intO) (lCons (o2 eqO (oLc 16 [15] (iSeq (frV 12)) (gN 15) (bO (o2 inA (rdV 15) (rdV 2))) (kO (.int 1))) (dLst aNil)) lNil)))) (fSeq (fFz 8) fNx)))) [some s, some (.fr (.int 1)), sv L, x3, some (.fr (.list (cntD L j))), some (.acc 2 [.int 1, .int 1]), x6, x7, some (.fr (.int z)), sv p, none, none, x12, x13, x14, x15] = some (.nx [some s, some (.fr (.int 1)), sv L, x3, some (.fr (.list (cntD L j))), some (.acc 2 [.int 1, .int 1]), x6, x7, some (.fr (.int (z + if misses L p = true then 1 else 0))), sv p, none, none, sv (sqsF 0 p), x13, x14, x15]) := by
  have hlen : p.length = 1 := Nat.eq_of_beq_eq_true (List.all_eq_true.mp arl1 p hp)
  have h12 : oL (g1 tupO) (lCons (oLc 16 [13, 14] (iEnumD (aCons (frV 9) aNil)) (gT 2 (gCons' (gN 13) (gCons' (gN 14) gNil'))) bYes (dTup (aCons (frV 13) (aCons (frV 14) aNil)))) lNil) [some s, some (.fr (.int 1)), sv L, x3, some (.fr (.list (cntD L j))), some (.acc 2 [.int 1, .int 1]), x6, x7, some (.fr (.int z)), sv p, none, none, x12, x13, x14, x15] = some (ev (sqsF 0 p)) := by
    refine oL1_eq (oLm_eq (sqsF 0 p) e e rfl ?_ (by rw [sqs_len]; omega) fun q _ => ⟨[some s, some (.fr (.int 1)), sv L, x3, some (.fr (.list (cntD L j))), some (.acc 2 [.int 1, .int 1]), x6, x7, some (.fr (.int z)), sv p, none, none, x12, sv q.1, sv q.2, x15], rfl, _, rfl, rfl⟩) rfl
    show some (enumD 0 (p.map e)) = _
    rw [enum_sqs]
  refine (fSeq_nx (ρ' := [some s, some (.fr (.int 1)), sv L, x3, some (.fr (.list (cntD L j))), some (.acc 2 [.int 1, .int 1]), x6, x7, some (.fr (.int z)), sv p, none, none, sv (sqsF 0 p), x13, x14, x15]) ?_).trans ?_
  · unfold fSet; rw [h12]; rfl
  refine (fSeq_nx (ρ' := [some s, some (.fr (.int 1)), sv L, x3, some (.fr (.list (cntD L j))), some (.acc 2 [.int 1, .int 1]), x6, x7, some (.fr (.int z)), sv p, none, none, sv (sqsF 0 p), x13, x14, x15]) ?_).trans ?_
  · have h := call_eq (n := 4) (F := F_is_at_peace) (fd := (aCons (kO (.str (PySem.Str.ofString "rook"))) (aCons (frV 1) (aCons (frV 1) (aCons (frV 12) aNil))))) (ρ := [some s, some (.fr (.int 1)), sv L, x3, some (.fr (.list (cntD L j))), some (.acc 2 [.int 1, .int 1]), x6, x7, some (.fr (.int z)), sv p, none, none, sv (sqsF 0 p), x13, x14, x15]) rfl rfl (peace1 p hp)
    unfold fIf bO
    rw [o2_eq (z := .fr (.bool false)) h rfl rfl]; rfl
  have h15 : o2 eqO (oLc 16 [15] (iSeq (frV 12)) (gN 15) (bO (o2 inA (rdV 15) (rdV 2))) (kO (.int 1))) (dLst aNil) [some s, some (.fr (.int 1)), sv L, x3, some (.fr (.list (cntD L j))), some (.acc 2 [.int 1, .int 1]), x6, x7, some (.fr (.int z)), sv p, none, none, sv (sqsF 0 p), x13, x14, x15] = some (fB (misses L p)) := by
    have hl := oLc_eq (ρ := [some s, some (.fr (.int 1)), sv L, x3, some (.fr (.list (cntD L j))), some (.acc 2 [.int 1, .int 1]), x6, x7, some (.fr (.int z)), sv p, none, none, sv (sqsF 0 p), x13, x14, x15]) (n := 16) (vs := [15]) (fi := iSeq (frV 12)) (ga := gN 15) (tt := bO (o2 inA (rdV 15) (rdV 2))) (te := kO (.int 1)) (sqsF 0 p) e (fun q => decide (q ∈ L)) (fun _ => PyData.int 1) rfl rfl (by rw [sqs_len]; omega) fun q _ => ⟨[some s, some (.fr (.int 1)), sv L, x3, some (.fr (.list (cntD L j))), some (.acc 2 [.int 1, .int 1]), x6, x7, some (.fr (.int z)), sv p, none, none, sv (sqsF 0 p), x13, x14, sv q], rfl, bO_eq (o2_eq (x := ev q) (y := ev L) rfl rfl ((inA_tup (by decide) q L).trans (by congr))), fun _ => ⟨_, rfl, rfl⟩⟩
    have hm : ∀ l : List Sq2, l.map (fun _ => PyData.int 1) = (l.map fun _ => (1 : Nat)).map e := fun l => by rw [List.map_map]; rfl
    rw [hm] at hl
    refine o2_eq hl (y := .lst []) rfl ?_
    rw [eqO_l (α := Nat) (m := []) (by decide) rfl rfl, miss_sqs]
    congr 2
    rw [Bool.eq_iff_iff, decide_eq_true_iff, List.isEmpty_iff, List.map_eq_nil_iff]
  refine (fSeq_nx (ρ' := [some s, some (.fr (.int 1)), sv L, x3, some (.fr (.list (cntD L j))), some (.acc 2 [.int 1, .int 1]), x6, x7, some (.fr (.int (z + if misses L p = true then 1 else 0))), sv p, none, none, sv (sqsF 0 p), x13, x14, x15]) ?_).trans rfl
  unfold fSet
  rw [o2_eq (x := .fr (.int z)) (y := .fr (.int (if misses L p = true then 1 else 0))) (z := .fr (.int (z + if misses L p = true then 1 else 0))) rfl (oL1_eq h15 rfl) rfl]
  rfl
theorem hr1 (s : Ob) (hs : IsS s) : ∃ s', F__law_hits_right s [.int 1] = some (.fr (.bool true), s') ∧ IsS s' := by
  refine tr_F (b := b__law_hits_right) (m := 16) ?_
  rw [g__law_hits_right]
  obtain ⟨o, ρ', e0, L, s', l1, l2, l3, hs', rfl, rfl⟩ := lotw1 s hs
  refine tr_setE ⟨_, _, e0, ?_⟩
  have go : ∀ s : Ob, WS c1__law_hits_right [some s, some (.fr (.int 1)), sv L, none, none, none, none, none, none, none, none, none, none, none, none, none] (fun r => ∃ t, r = .rt (.fr (.bool true)) (some s :: t)) := by
    clear e0
    intro s
    obtain ⟨j, w1, w2, w3⟩ := S_within (.int 1) (.int 1) l2 (show L.length ≤ 8 by omega)
    have hdue := due_ok chk1 l1 l2 w1
    unfold c1__law_hits_right
    refine ws_nx (ρ1 := [some s, some (.fr (.int 1)), sv L, some (.fr (.int 0)), none, none, none, none, none, none, none, none, none, none, none, none]) rfl ?_
    refine ws_asg (call_eq (ds := [.int 1, .int 1, e L]) rfl rfl w3) ?_
    refine ws_nx (ρ1 := [some s, some (.fr (.int 1)), sv L, some (.fr (.int 0)), some (.fr (.list (cntD L j))), none, none, none, none, none, none, none, none, none, none, none]) rfl ?_
    refine ws_nx (ρ1 := [some s, some (.fr (.int 1)), sv L, some (.fr (.int 0)), some (.fr (.list (cntD L j))), some (.lst [.int 1]), none, none, none, none, none, none, none, none, none, none]) rfl ?_
    refine ws_nx (ρ1 := [some s, some (.fr (.int 1)), sv L, some (.fr (.int 0)), some (.fr (.list (cntD L j))), some (.acc 1 [.int 1]), none, none, none, none, none, none, none, none, none, none]) rfl ?_
    refine ws_seqW (ρ2 := [some s, some (.fr (.int 1)), sv L, some (.fr (.int 0)), some (.fr (.list (cntD L j))), some (.acc 2 [.int 1, .int 1]), none, none, none, none, none, none, none, none, none, none]) [6] (by kernel_rfl) fun xs hx => ?_
    match xs, hx with
    | [x6], _ =>
      refine ws_for (List.range j) (fun k => .tuple [.int (k : Nat), .int ((lev L k).length : Nat)]) (fun dn td ρ => ∃ x6 x7, ρ = [some s, some (.fr (.int 1)), sv L, some (.fr (.int (alt dn.length (gL1 L)))), some (.fr (.list (cntD L j))), some (.acc 2 [.int 1, .int 1]), x6, x7, none, none, none, none, none, none, none, none]) ?_ ⟨x6, none, rfl⟩ (fun dn k td ρ ⟨x6, x7, hρ⟩ hdn => ?_) fun ρ ⟨x6, x7, hρ⟩ => ?_
      · show some (enumD 0 (cntD L j)) = _
        unfold cntD
        rw [List.range_eq_range']
        exact congrArg some (enum_map (fun k => (lev L k).length) j 0)
      · subst hρ
        have hk : dn.length = k := by
          have h1 := congrArg (fun l : List Nat => l[dn.length]?) hdn
          have h2 : dn.length < j := by
            have := congrArg List.length hdn
            rw [List.length_append, List.length_cons, List.length_range] at this; omega
          simp [List.getElem?_range h2] at h1
          exact h1.symm
        have hj : k < j := by
          have := congrArg List.length hdn
          rw [List.length_append, List.length_cons, List.length_range] at this; omega
        subst hk
        refine ⟨[some s, some (.fr (.int 1)), sv L, some (.fr (.int (alt dn.length (gL1 L)))), some (.fr (.list (cntD L j))), some (.acc 2 [.int 1, .int 1]), some (.fr (.int (dn.length : Nat))), some (.fr (.int ((lev L dn.length).length : Nat))), none, none, none, none, none, none, none, none], rfl, ws_1 (due1 s L j dn.length _ (lev_n chk1 l1 l2 (w2 dn.length hj)) (lev_pow l2 (by omega) _)) ⟨some (.fr (.int (dn.length : Nat))), some (.fr (.int ((lev L dn.length).length : Nat))), ?_⟩⟩
        rw [List.length_append, List.length_singleton, alt_last]
      · subst hρ
        rw [List.length_range]
        have hd2 : alt j (gL1 L) = IE (arr 1) L := hdue.symm
        rw [hd2]
        refine ws_nx (ρ1 := [some s, some (.fr (.int 1)), sv L, some (.fr (.int (IE (arr 1) L))), some (.fr (.list (cntD L j))), some (.acc 2 [.int 1, .int 1]), x6, x7, some (.fr (.int 0)), none, none, none, none, none, none, none]) rfl ?_
        refine ws_for (arr 1) e (fun dn td ρ => ∃ x9 x12 x13 x14 x15, ρ = [some s, some (.fr (.int 1)), sv L, some (.fr (.int (IE (arr 1) L))), some (.fr (.list (cntD L j))), some (.acc 2 [.int 1, .int 1]), x6, x7, some (.fr (.int ((dn.countP (misses L) : Nat) : Int))), x9, none, none, x12, x13, x14, x15]) ?_ ⟨none, none, none, none, none, rfl⟩ (fun dn p td ρ ⟨x9, x12, x13, x14, x15, hρ⟩ hdn => ?_) fun ρ ⟨x9, x12, x13, x14, x15, hρ⟩ => ?_
        · exact iSeq_eq (call_eq (ds := [.int 1]) rfl rfl arrR1) rfl rfl
        · subst hρ
          refine ⟨[some s, some (.fr (.int 1)), sv L, some (.fr (.int (IE (arr 1) L))), some (.fr (.list (cntD L j))), some (.acc 2 [.int 1, .int 1]), x6, x7, some (.fr (.int ((dn.countP (misses L) : Nat) : Int))), sv p, none, none, x12, x13, x14, x15], rfl, ws_1 (row1 s L j _ x6 x7 x12 x13 x14 x15 _ p (by rw [← hdn]; simp) l3) ⟨sv p, sv (sqsF 0 p), x13, x14, x15, ?_⟩⟩
          have : (((dn ++ [p]).countP (misses L) : Nat) : Int) = (dn.countP (misses L) : Nat) + if misses L p = true then 1 else 0 := by
            rw [List.countP_append, List.countP_singleton]
            split <;> simp
          rw [this]
        · subst hρ
          have hz : (((arr 1).countP (misses L) : Nat) : Int) = IE (arr 1) L := rfl
          rw [hz]
          generalize IE (arr 1) L = z
          refine ws_nx (ρ1 := [some s, some (.fr (.int 1)), sv L, some (.fr (.int z)), some (.fr (.list (cntD L j))), some (.acc 2 [.int 1, .int 1]), x6, x7, some (.fr (.int z)), x9, some (.fr (.int 0)), none, x12, x13, x14, x15]) (by kernel_rfl) ?_
          refine ws_nx (ρ1 := [some s, some (.fr (.int 1)), sv L, some (.fr (.int z)), some (.fr (.list (cntD L j))), some (.acc 2 [.int 1, .int 1]), x6, x7, some (.fr (.int z)), x9, some (.fr (.int 0)), some (.fr (.int 0)), x12, x13, x14, x15]) (by kernel_rfl) ?_
          refine ws_rt (o := .fr (.bool true)) ?_ ⟨_, rfl⟩
          refine oAnd_eq (b := true) (c := true) (o2_eq (x := ev z) (y := ev z) rfl rfl ?_) fun _ => ?_
          · rw [eqO_e (by decide)]; simp
          · kernel_rfl
  obtain ⟨r, e1, t, rfl⟩ := go s'
  exact ⟨s', t, e1, hs'⟩
theorem arrR2 : F__law_arrangements [.int 2] = some (.fr (.list ((arr 2).map e))) := by kernel_rfl
theorem asc2 : Asc (sqB 2) := by unfold Asc; decide +kernel
theorem nod2 : (sqB 2).Nodup := by decide +kernel
theorem pe2_0 : ((((arr 2).drop 0).take 2).map fun p => F_is_at_peace [.str (PySem.Str.ofString "rook"), .int 2, .int 2, e (sqsF 0 p)]) = (((arr 2).drop 0).take 2).map fun _ => some (.fr (.bool true)) := by kernel_rfl
theorem arl2 : (arr 2).all (fun p => Nat.beq p.length 2) = true := by kernel_rfl
theorem sp2 : arr 2 = ((arr 2).drop 0).take 2 := by kernel_rfl
theorem peace2 : ∀ p ∈ arr 2, F_is_at_peace [.str (PySem.Str.ofString "rook"), .int 2, .int 2, e (sqsF 0 p)] = some (.fr (.bool true)) := by
  intro p hp
  rw [sp2] at hp
  rcases hp with hp
  · exact map_eq pe2_0 p hp
theorem lotw2 (s : Ob) (hs : IsS s) : WE (e1L (g1 tupO) (e1L (g1 sortA) (eSl (eCallB 0 1 F__law_mixed (eaCons (eP (dCall 2 F__law_squares (aCons (frV 1) (aCons (frV 1) aNil)))) eaNil)) oNoneE (oSomeE (eCallB 0 1 F__law_pick (eaCons (eP (oL (g2 min2O) (lCons (kO (.int 7)) (lCons (o2 addO (o2 mulO (rdV 1) (rdV 1)) (kO (.int 1))) lNil)))) eaNil)))))) [some s, some (.fr (.int 2)), none, none, none, none, none, none, none, none, none, none, none, none, none, none] (fun o ρ' => ∃ L : List Sq2, ∃ s', L.Sublist (sqB 2) ∧ Asc L ∧ L.length ≤ 6 ∧ IsS s' ∧ o = ev L ∧ ρ' = [some s', some (.fr (.int 2)), none, none, none, none, none, none, none, none, none, none, none, none, none, none]) := by
  obtain ⟨ys, s1, e1, hp, hs1⟩ := mixed_run pick_ok hs ((sqB 2).map e) (by show _ ≤ 60000; exact Nat.le_of_ble_eq_true rfl)
  refine we_1L (we_1L (we_slT (we_callB ⟨s, rfl⟩ ⟨[.list ((sqB 2).map e)], [some s, some (.fr (.int 2)), none, none, none, none, none, none, none, none, none, none, none, none, none, none], by kernel_rfl, rfl, s, .fr (.list ys), s1, rfl, e1, .list ys, rfl, ?_⟩)))
  refine we_pick pick_ok (many := 5) hs1 rfl (by decide) (by decide) fun v s2 h0 h1 hs2 => ⟨v, rfl, ?_⟩
  obtain ⟨k, rfl⟩ : ∃ k : Nat, v = (k : Int) := ⟨v.toNat, by omega⟩
  obtain ⟨L, l1, l2, l3, l4⟩ := lot_made asc2 nod2 hp k (by omega)
  refine ⟨.lst (ys.take k), ?_, .list (ys.take k), rfl, .lst (L.map e), l4, .list (L.map e), rfl, ev L, rfl, L, s2, l1, l2, by omega, hs2, rfl, rfl⟩
  show some (Ob.lst (DL.cutD ys none (some ((k : Nat) : Int)))) = _
  have q : DL.cutD ys none (some ((k : Nat) : Int)) = ys.take k := by
    show (ys.drop 0).take (min k ys.length - 0) = _
    rw [List.drop_zero, Nat.sub_zero, List.take_eq_take_iff]; omega
  rw [q]
def gL2 (L : List Sq2) (k : Nat) : Int := ((lev L k).length : Int) * fac (2 - k)
theorem due2 (s : Ob) (L : List Sq2) (j k : Nat) (z : Int) (hk : k ≤ 2) (hl : (lev L k).length ≤ 256) : (fSeq (fSet 3 (o2 addO (rdV 3) (o2 mulO (o2 mulO (rdV 7) (o2 ixA (rdV 5) (o2 subI (rdV 1) (rdV 6)))) (oIf (bO (o2 eqO (o2 mulO (o2 divI (rdV 6) (kO (.int 2))) (kO (.int 2))) (rdV 6))) (kO (.int 1)) (o2 subI (kO (.int 0)) (kO (.int 1))))))) (fSeq (fFz 3) fNx)) [some s, some (.fr (.int 2)), sv L, some (.fr (.int z)), some (.fr (.list (cntD L j))), some (.acc 3 [.int 2, .int 1, .int 1]), some (.fr (.int (k : Nat))), some (.fr (.int ((lev L k).length : Nat))), none, none, none, none, none, none, none, none] = some (.nx [some s, some (.fr (.int 2)), sv L, some (.fr (.int (z + gL2 L k * sgn k))), some (.fr (.list (cntD L j))), some (.acc 3 [.int 2, .int 1, .int 1]), some (.fr (.int (k : Nat))), some (.fr (.int ((lev L k).length : Nat))), none, none, none, none, none, none, none, none]) := by
  obtain ⟨c, hc⟩ : ∃ c, (lev L k).length = c := ⟨_, rfl⟩
  rw [hc]
  have hk2 : k = 0 ∨ k = 1 ∨ k = 2 := by omega
  unfold gL2
  rw [hc]
  rcases hk2 with rfl | rfl | rfl
  · refine (fSeq_nx (ρ' := [some s, some (.fr (.int 2)), sv L, some (.fr (.int (z + ((c : Nat) : Int) * (2 : Int) * (1 : Int)))), some (.fr (.list (cntD L j))), some (.acc 3 [.int 2, .int 1, .int 1]), some (.fr (.int 0)), some (.fr (.int (c : Nat))), none, none, none, none, none, none, none, none]) ?_).trans rfl
    unfold fSet
    rw [o2_eq (z := .fr (.int (z + ((c : Nat) : Int) * (2 : Int) * (1 : Int)))) (x := .fr (.int z)) (y := .fr (.int (((c : Nat) : Int) * (2 : Int) * (1 : Int)))) rfl (o2_eq (x := .fr (.int (((c : Nat) : Int) * (2 : Int)))) (y := .fr (.int (1))) (o2_eq (x := .fr (.int ((c : Nat) : Int))) (y := .fr (.int 2)) rfl rfl (mul_r rfl)) rfl (mul_r rfl)) rfl]
    rfl
  · refine (fSeq_nx (ρ' := [some s, some (.fr (.int 2)), sv L, some (.fr (.int (z + ((c : Nat) : Int) * (1 : Int) * (-1 : Int)))), some (.fr (.list (cntD L j))), some (.acc 3 [.int 2, .int 1, .int 1]), some (.fr (.int 1)), some (.fr (.int (c : Nat))), none, none, none, none, none, none, none, none]) ?_).trans rfl
    unfold fSet
    rw [o2_eq (z := .fr (.int (z + ((c : Nat) : Int) * (1 : Int) * (-1 : Int)))) (x := .fr (.int z)) (y := .fr (.int (((c : Nat) : Int) * (1 : Int) * (-1 : Int)))) rfl (o2_eq (x := .fr (.int (((c : Nat) : Int) * (1 : Int)))) (y := .fr (.int (-1))) (o2_eq (x := .fr (.int ((c : Nat) : Int))) (y := .fr (.int 1)) rfl rfl (mul_r rfl)) rfl (mul_r rfl)) rfl]
    rfl
  · refine (fSeq_nx (ρ' := [some s, some (.fr (.int 2)), sv L, some (.fr (.int (z + ((c : Nat) : Int) * (1 : Int) * (1 : Int)))), some (.fr (.list (cntD L j))), some (.acc 3 [.int 2, .int 1, .int 1]), some (.fr (.int 2)), some (.fr (.int (c : Nat))), none, none, none, none, none, none, none, none]) ?_).trans rfl
    unfold fSet
    rw [o2_eq (z := .fr (.int (z + ((c : Nat) : Int) * (1 : Int) * (1 : Int)))) (x := .fr (.int z)) (y := .fr (.int (((c : Nat) : Int) * (1 : Int) * (1 : Int)))) rfl (o2_eq (x := .fr (.int (((c : Nat) : Int) * (1 : Int)))) (y := .fr (.int (1))) (o2_eq (x := .fr (.int ((c : Nat) : Int))) (y := .fr (.int 1)) rfl rfl (mul_r rfl)) rfl (mul_r rfl)) rfl]
    rfl
theorem row2 (s : Ob) (L : List Sq2) (j : Nat) (x3 x6 x7 x12 x13 x14 x15 : Option Ob) (z : Int) (p : List Nat) (hp : p ∈ arr 2) (hL : L.length ≤ 6) : (fSeq (fSet 12 (oL (g1 tupO) (lCons (oLc 16 [13, 14] (iEnumD (aCons (frV 9) aNil)) (gT 2 (gCons' (gN 13) (gCons' (gN 14) gNil'))) bYes (dTup (aCons (frV 13) (aCons (frV 14) aNil)))) lNil))) (fSeq (fIf (bO (o2 isnO (dCall 4 F_is_at_peace (aCons (kO (.str (PySem.Str.ofString "rook"))) (aCons (frV 1) (aCons (frV 1) (aCons (frV 12) aNil))))) (kO (.bool true)))) (fRet (kO (.bool false))) fNx) (fSeq (fSet 8 (o2 addO (rdV 8) (oL (g1 intO) (lCons (o2 eqO (oLc 16 [15] (iSeq (frV 12)) (gN 15) (bO (o2 inA (rdV 15) (rdV 2))) (kO (.int 1))) (dLst aNil)) lNil)))) (fSeq (fFz 8) fNx)))) [some s, some (.fr (.int 2)), sv L, x3, some (.fr (.list (cntD L j))), some (.acc 3 [.int 2, .int 1, .int 1]), x6, x7, some (.fr (.int z)), sv p, none, none, x12, x13, x14, x15] = some (.nx [some s, some (.fr (.int 2)), sv L, x3, some (.fr (.list (cntD L j))), some (.acc 3 [.int 2, .int 1, .int 1]), x6, x7, some (.fr (.int (z + if misses L p = true then 1 else 0))), sv p, none, none, sv (sqsF 0 p), x13, x14, x15]) := by
  have hlen : p.length = 2 := Nat.eq_of_beq_eq_true (List.all_eq_true.mp arl2 p hp)
  have h12 : oL (g1 tupO) (lCons (oLc 16 [13, 14] (iEnumD (aCons (frV 9) aNil)) (gT 2 (gCons' (gN 13) (gCons' (gN 14) gNil'))) bYes (dTup (aCons (frV 13) (aCons (frV 14) aNil)))) lNil) [some s, some (.fr (.int 2)), sv L, x3, some (.fr (.list (cntD L j))), some (.acc 3 [.int 2, .int 1, .int 1]), x6, x7, some (.fr (.int z)), sv p, none, none, x12, x13, x14, x15] = some (ev (sqsF 0 p)) := by
    refine oL1_eq (oLm_eq (sqsF 0 p) e e rfl ?_ (by rw [sqs_len]; omega) fun q _ => ⟨[some s, some (.fr (.int 2)), sv L, x3, some (.fr (.list (cntD L j))), some (.acc 3 [.int 2, .int 1, .int 1]), x6, x7, some (.fr (.int z)), sv p, none, none, x12, sv q.1, sv q.2, x15], rfl, _, rfl, rfl⟩) rfl
    show some (enumD 0 (p.map e)) = _
    rw [enum_sqs]
  refine (fSeq_nx (ρ' := [some s, some (.fr (.int 2)), sv L, x3, some (.fr (.list (cntD L j))), some (.acc 3 [.int 2, .int 1, .int 1]), x6, x7, some (.fr (.int z)), sv p, none, none, sv (sqsF 0 p), x13, x14, x15]) ?_).trans ?_
  · unfold fSet; rw [h12]; rfl
  refine (fSeq_nx (ρ' := [some s, some (.fr (.int 2)), sv L, x3, some (.fr (.list (cntD L j))), some (.acc 3 [.int 2, .int 1, .int 1]), x6, x7, some (.fr (.int z)), sv p, none, none, sv (sqsF 0 p), x13, x14, x15]) ?_).trans ?_
  · have h := call_eq (n := 4) (F := F_is_at_peace) (fd := (aCons (kO (.str (PySem.Str.ofString "rook"))) (aCons (frV 1) (aCons (frV 1) (aCons (frV 12) aNil))))) (ρ := [some s, some (.fr (.int 2)), sv L, x3, some (.fr (.list (cntD L j))), some (.acc 3 [.int 2, .int 1, .int 1]), x6, x7, some (.fr (.int z)), sv p, none, none, sv (sqsF 0 p), x13, x14, x15]) rfl rfl (peace2 p hp)
    unfold fIf bO
    rw [o2_eq (z := .fr (.bool false)) h rfl rfl]; rfl
  have h15 : o2 eqO (oLc 16 [15] (iSeq (frV 12)) (gN 15) (bO (o2 inA (rdV 15) (rdV 2))) (kO (.int 1))) (dLst aNil) [some s, some (.fr (.int 2)), sv L, x3, some (.fr (.list (cntD L j))), some (.acc 3 [.int 2, .int 1, .int 1]), x6, x7, some (.fr (.int z)), sv p, none, none, sv (sqsF 0 p), x13, x14, x15] = some (fB (misses L p)) := by
    have hl := oLc_eq (ρ := [some s, some (.fr (.int 2)), sv L, x3, some (.fr (.list (cntD L j))), some (.acc 3 [.int 2, .int 1, .int 1]), x6, x7, some (.fr (.int z)), sv p, none, none, sv (sqsF 0 p), x13, x14, x15]) (n := 16) (vs := [15]) (fi := iSeq (frV 12)) (ga := gN 15) (tt := bO (o2 inA (rdV 15) (rdV 2))) (te := kO (.int 1)) (sqsF 0 p) e (fun q => decide (q ∈ L)) (fun _ => PyData.int 1) rfl rfl (by rw [sqs_len]; omega) fun q _ => ⟨[some s, some (.fr (.int 2)), sv L, x3, some (.fr (.list (cntD L j))), some (.acc 3 [.int 2, .int 1, .int 1]), x6, x7, some (.fr (.int z)), sv p, none, none, sv (sqsF 0 p), x13, x14, sv q], rfl, bO_eq (o2_eq (x := ev q) (y := ev L) rfl rfl ((inA_tup (by decide) q L).trans (by congr))), fun _ => ⟨_, rfl, rfl⟩⟩
    have hm : ∀ l : List Sq2, l.map (fun _ => PyData.int 1) = (l.map fun _ => (1 : Nat)).map e := fun l => by rw [List.map_map]; rfl
    rw [hm] at hl
    refine o2_eq hl (y := .lst []) rfl ?_
    rw [eqO_l (α := Nat) (m := []) (by decide) rfl rfl, miss_sqs]
    congr 2
    rw [Bool.eq_iff_iff, decide_eq_true_iff, List.isEmpty_iff, List.map_eq_nil_iff]
  refine (fSeq_nx (ρ' := [some s, some (.fr (.int 2)), sv L, x3, some (.fr (.list (cntD L j))), some (.acc 3 [.int 2, .int 1, .int 1]), x6, x7, some (.fr (.int (z + if misses L p = true then 1 else 0))), sv p, none, none, sv (sqsF 0 p), x13, x14, x15]) ?_).trans rfl
  unfold fSet
  rw [o2_eq (x := .fr (.int z)) (y := .fr (.int (if misses L p = true then 1 else 0))) (z := .fr (.int (z + if misses L p = true then 1 else 0))) rfl (oL1_eq h15 rfl) rfl]
  rfl
theorem hr2 (s : Ob) (hs : IsS s) : ∃ s', F__law_hits_right s [.int 2] = some (.fr (.bool true), s') ∧ IsS s' := by
  refine tr_F (b := b__law_hits_right) (m := 16) ?_
  rw [g__law_hits_right]
  obtain ⟨o, ρ', e0, L, s', l1, l2, l3, hs', rfl, rfl⟩ := lotw2 s hs
  refine tr_setE ⟨_, _, e0, ?_⟩
  have go : ∀ s : Ob, WS c1__law_hits_right [some s, some (.fr (.int 2)), sv L, none, none, none, none, none, none, none, none, none, none, none, none, none] (fun r => ∃ t, r = .rt (.fr (.bool true)) (some s :: t)) := by
    clear e0
    intro s
    obtain ⟨j, w1, w2, w3⟩ := S_within (.int 2) (.int 2) l2 (show L.length ≤ 8 by omega)
    have hdue := due_ok chk2 l1 l2 w1
    unfold c1__law_hits_right
    refine ws_nx (ρ1 := [some s, some (.fr (.int 2)), sv L, some (.fr (.int 0)), none, none, none, none, none, none, none, none, none, none, none, none]) rfl ?_
    refine ws_asg (call_eq (ds := [.int 2, .int 2, e L]) rfl rfl w3) ?_
    refine ws_nx (ρ1 := [some s, some (.fr (.int 2)), sv L, some (.fr (.int 0)), some (.fr (.list (cntD L j))), none, none, none, none, none, none, none, none, none, none, none]) rfl ?_
    refine ws_nx (ρ1 := [some s, some (.fr (.int 2)), sv L, some (.fr (.int 0)), some (.fr (.list (cntD L j))), some (.lst [.int 1]), none, none, none, none, none, none, none, none, none, none]) rfl ?_
    refine ws_nx (ρ1 := [some s, some (.fr (.int 2)), sv L, some (.fr (.int 0)), some (.fr (.list (cntD L j))), some (.acc 1 [.int 1]), none, none, none, none, none, none, none, none, none, none]) rfl ?_
    refine ws_seqW (ρ2 := [some s, some (.fr (.int 2)), sv L, some (.fr (.int 0)), some (.fr (.list (cntD L j))), some (.acc 3 [.int 2, .int 1, .int 1]), none, none, none, none, none, none, none, none, none, none]) [6] (by kernel_rfl) fun xs hx => ?_
    match xs, hx with
    | [x6], _ =>
      refine ws_for (List.range j) (fun k => .tuple [.int (k : Nat), .int ((lev L k).length : Nat)]) (fun dn td ρ => ∃ x6 x7, ρ = [some s, some (.fr (.int 2)), sv L, some (.fr (.int (alt dn.length (gL2 L)))), some (.fr (.list (cntD L j))), some (.acc 3 [.int 2, .int 1, .int 1]), x6, x7, none, none, none, none, none, none, none, none]) ?_ ⟨x6, none, rfl⟩ (fun dn k td ρ ⟨x6, x7, hρ⟩ hdn => ?_) fun ρ ⟨x6, x7, hρ⟩ => ?_
      · show some (enumD 0 (cntD L j)) = _
        unfold cntD
        rw [List.range_eq_range']
        exact congrArg some (enum_map (fun k => (lev L k).length) j 0)
      · subst hρ
        have hk : dn.length = k := by
          have h1 := congrArg (fun l : List Nat => l[dn.length]?) hdn
          have h2 : dn.length < j := by
            have := congrArg List.length hdn
            rw [List.length_append, List.length_cons, List.length_range] at this; omega
          simp [List.getElem?_range h2] at h1
          exact h1.symm
        have hj : k < j := by
          have := congrArg List.length hdn
          rw [List.length_append, List.length_cons, List.length_range] at this; omega
        subst hk
        refine ⟨[some s, some (.fr (.int 2)), sv L, some (.fr (.int (alt dn.length (gL2 L)))), some (.fr (.list (cntD L j))), some (.acc 3 [.int 2, .int 1, .int 1]), some (.fr (.int (dn.length : Nat))), some (.fr (.int ((lev L dn.length).length : Nat))), none, none, none, none, none, none, none, none], rfl, ws_1 (due2 s L j dn.length _ (lev_n chk2 l1 l2 (w2 dn.length hj)) (lev_pow l2 (by omega) _)) ⟨some (.fr (.int (dn.length : Nat))), some (.fr (.int ((lev L dn.length).length : Nat))), ?_⟩⟩
        rw [List.length_append, List.length_singleton, alt_last]
      · subst hρ
        rw [List.length_range]
        have hd2 : alt j (gL2 L) = IE (arr 2) L := hdue.symm
        rw [hd2]
        refine ws_nx (ρ1 := [some s, some (.fr (.int 2)), sv L, some (.fr (.int (IE (arr 2) L))), some (.fr (.list (cntD L j))), some (.acc 3 [.int 2, .int 1, .int 1]), x6, x7, some (.fr (.int 0)), none, none, none, none, none, none, none]) rfl ?_
        refine ws_for (arr 2) e (fun dn td ρ => ∃ x9 x12 x13 x14 x15, ρ = [some s, some (.fr (.int 2)), sv L, some (.fr (.int (IE (arr 2) L))), some (.fr (.list (cntD L j))), some (.acc 3 [.int 2, .int 1, .int 1]), x6, x7, some (.fr (.int ((dn.countP (misses L) : Nat) : Int))), x9, none, none, x12, x13, x14, x15]) ?_ ⟨none, none, none, none, none, rfl⟩ (fun dn p td ρ ⟨x9, x12, x13, x14, x15, hρ⟩ hdn => ?_) fun ρ ⟨x9, x12, x13, x14, x15, hρ⟩ => ?_
        · exact iSeq_eq (call_eq (ds := [.int 2]) rfl rfl arrR2) rfl rfl
        · subst hρ
          refine ⟨[some s, some (.fr (.int 2)), sv L, some (.fr (.int (IE (arr 2) L))), some (.fr (.list (cntD L j))), some (.acc 3 [.int 2, .int 1, .int 1]), x6, x7, some (.fr (.int ((dn.countP (misses L) : Nat) : Int))), sv p, none, none, x12, x13, x14, x15], rfl, ws_1 (row2 s L j _ x6 x7 x12 x13 x14 x15 _ p (by rw [← hdn]; simp) l3) ⟨sv p, sv (sqsF 0 p), x13, x14, x15, ?_⟩⟩
          have : (((dn ++ [p]).countP (misses L) : Nat) : Int) = (dn.countP (misses L) : Nat) + if misses L p = true then 1 else 0 := by
            rw [List.countP_append, List.countP_singleton]
            split <;> simp
          rw [this]
        · subst hρ
          have hz : (((arr 2).countP (misses L) : Nat) : Int) = IE (arr 2) L := rfl
          rw [hz]
          generalize IE (arr 2) L = z
          refine ws_nx (ρ1 := [some s, some (.fr (.int 2)), sv L, some (.fr (.int z)), some (.fr (.list (cntD L j))), some (.acc 3 [.int 2, .int 1, .int 1]), x6, x7, some (.fr (.int z)), x9, some (.fr (.int 1)), none, x12, x13, x14, x15]) (by kernel_rfl) ?_
          refine ws_nx (ρ1 := [some s, some (.fr (.int 2)), sv L, some (.fr (.int z)), some (.fr (.list (cntD L j))), some (.acc 3 [.int 2, .int 1, .int 1]), x6, x7, some (.fr (.int z)), x9, some (.fr (.int 1)), some (.fr (.int 1)), x12, x13, x14, x15]) (by kernel_rfl) ?_
          refine ws_rt (o := .fr (.bool true)) ?_ ⟨_, rfl⟩
          refine oAnd_eq (b := true) (c := true) (o2_eq (x := ev z) (y := ev z) rfl rfl ?_) fun _ => ?_
          · rw [eqO_e (by decide)]; simp
          · kernel_rfl
  obtain ⟨r, e1, t, rfl⟩ := go s'
  exact ⟨s', t, e1, hs'⟩
theorem arrR3 : F__law_arrangements [.int 3] = some (.fr (.list ((arr 3).map e))) := by kernel_rfl
theorem asc3 : Asc (sqB 3) := by unfold Asc; decide +kernel
theorem nod3 : (sqB 3).Nodup := by decide +kernel
theorem pe3_0 : ((((arr 3).drop 0).take 6).map fun p => F_is_at_peace [.str (PySem.Str.ofString "rook"), .int 3, .int 3, e (sqsF 0 p)]) = (((arr 3).drop 0).take 6).map fun _ => some (.fr (.bool true)) := by kernel_rfl
theorem arl3 : (arr 3).all (fun p => Nat.beq p.length 3) = true := by kernel_rfl
theorem sp3 : arr 3 = ((arr 3).drop 0).take 6 := by kernel_rfl
theorem peace3 : ∀ p ∈ arr 3, F_is_at_peace [.str (PySem.Str.ofString "rook"), .int 3, .int 3, e (sqsF 0 p)] = some (.fr (.bool true)) := by
  intro p hp
  rw [sp3] at hp
  rcases hp with hp
  · exact map_eq pe3_0 p hp
theorem lotw3 (s : Ob) (hs : IsS s) : WE (e1L (g1 tupO) (e1L (g1 sortA) (eSl (eCallB 0 1 F__law_mixed (eaCons (eP (dCall 2 F__law_squares (aCons (frV 1) (aCons (frV 1) aNil)))) eaNil)) oNoneE (oSomeE (eCallB 0 1 F__law_pick (eaCons (eP (oL (g2 min2O) (lCons (kO (.int 7)) (lCons (o2 addO (o2 mulO (rdV 1) (rdV 1)) (kO (.int 1))) lNil)))) eaNil)))))) [some s, some (.fr (.int 3)), none, none, none, none, none, none, none, none, none, none, none, none, none, none] (fun o ρ' => ∃ L : List Sq2, ∃ s', L.Sublist (sqB 3) ∧ Asc L ∧ L.length ≤ 6 ∧ IsS s' ∧ o = ev L ∧ ρ' = [some s', some (.fr (.int 3)), none, none, none, none, none, none, none, none, none, none, none, none, none, none]) := by
  obtain ⟨ys, s1, e1, hp, hs1⟩ := mixed_run pick_ok hs ((sqB 3).map e) (by show _ ≤ 60000; exact Nat.le_of_ble_eq_true rfl)
  refine we_1L (we_1L (we_slT (we_callB ⟨s, rfl⟩ ⟨[.list ((sqB 3).map e)], [some s, some (.fr (.int 3)), none, none, none, none, none, none, none, none, none, none, none, none, none, none], by kernel_rfl, rfl, s, .fr (.list ys), s1, rfl, e1, .list ys, rfl, ?_⟩)))
  refine we_pick pick_ok (many := 7) hs1 rfl (by decide) (by decide) fun v s2 h0 h1 hs2 => ⟨v, rfl, ?_⟩
  obtain ⟨k, rfl⟩ : ∃ k : Nat, v = (k : Int) := ⟨v.toNat, by omega⟩
  obtain ⟨L, l1, l2, l3, l4⟩ := lot_made asc3 nod3 hp k (by omega)
  refine ⟨.lst (ys.take k), ?_, .list (ys.take k), rfl, .lst (L.map e), l4, .list (L.map e), rfl, ev L, rfl, L, s2, l1, l2, by omega, hs2, rfl, rfl⟩
  show some (Ob.lst (DL.cutD ys none (some ((k : Nat) : Int)))) = _
  have q : DL.cutD ys none (some ((k : Nat) : Int)) = ys.take k := by
    show (ys.drop 0).take (min k ys.length - 0) = _
    rw [List.drop_zero, Nat.sub_zero, List.take_eq_take_iff]; omega
  rw [q]
def gL3 (L : List Sq2) (k : Nat) : Int := ((lev L k).length : Int) * fac (3 - k)
theorem due3 (s : Ob) (L : List Sq2) (j k : Nat) (z : Int) (hk : k ≤ 3) (hl : (lev L k).length ≤ 256) : (fSeq (fSet 3 (o2 addO (rdV 3) (o2 mulO (o2 mulO (rdV 7) (o2 ixA (rdV 5) (o2 subI (rdV 1) (rdV 6)))) (oIf (bO (o2 eqO (o2 mulO (o2 divI (rdV 6) (kO (.int 2))) (kO (.int 2))) (rdV 6))) (kO (.int 1)) (o2 subI (kO (.int 0)) (kO (.int 1))))))) (fSeq (fFz 3) fNx)) [some s, some (.fr (.int 3)), sv L, some (.fr (.int z)), some (.fr (.list (cntD L j))), some (.acc 4 [.int 6, .int 2, .int 1, .int 1]), some (.fr (.int (k : Nat))), some (.fr (.int ((lev L k).length : Nat))), none, none, none, none, none, none, none, none] = some (.nx [some s, some (.fr (.int 3)), sv L, some (.fr (.int (z + gL3 L k * sgn k))), some (.fr (.list (cntD L j))), some (.acc 4 [.int 6, .int 2, .int 1, .int 1]), some (.fr (.int (k : Nat))), some (.fr (.int ((lev L k).length : Nat))), none, none, none, none, none, none, none, none]) := by
  obtain ⟨c, hc⟩ : ∃ c, (lev L k).length = c := ⟨_, rfl⟩
  rw [hc]
  have hk2 : k = 0 ∨ k = 1 ∨ k = 2 ∨ k = 3 := by omega
  unfold gL3
  rw [hc]
  rcases hk2 with rfl | rfl | rfl | rfl
  · refine (fSeq_nx (ρ' := [some s, some (.fr (.int 3)), sv L, some (.fr (.int (z + ((c : Nat) : Int) * (6 : Int) * (1 : Int)))), some (.fr (.list (cntD L j))), some (.acc 4 [.int 6, .int 2, .int 1, .int 1]), some (.fr (.int 0)), some (.fr (.int (c : Nat))), none, none, none, none, none, none, none, none]) ?_).trans rfl
    unfold fSet
    rw [o2_eq (z := .fr (.int (z + ((c : Nat) : Int) * (6 : Int) * (1 : Int)))) (x := .fr (.int z)) (y := .fr (.int (((c : Nat) : Int) * (6 : Int) * (1 : Int)))) rfl (o2_eq (x := .fr (.int (((c : Nat) : Int) * (6 : Int)))) (y := .fr (.int (1))) (o2_eq (x := .fr (.int ((c : Nat) : Int))) (y := .fr (.int 6)) rfl rfl (mul_r rfl)) rfl (mul_r rfl)) rfl]
    rfl
  · refine (fSeq_nx (ρ' := [some s, some (.fr (.int 3)), sv L, some (.fr (.int (z + ((c : Nat) : Int) * (2 : Int) * (-1 : Int)))), some (.fr (.list (cntD L j))), some (.acc 4 [.int 6, .int 2, .int 1, .int 1]), some (.fr (.int 1)), some (.fr (.int (c : Nat))), none, none, none, none, none, none, none, none]) ?_).trans rfl
    unfold fSet
    rw [o2_eq (z := .fr (.int (z + ((c : Nat) : Int) * (2 : Int) * (-1 : Int)))) (x := .fr (.int z)) (y := .fr (.int (((c : Nat) : Int) * (2 : Int) * (-1 : Int)))) rfl (o2_eq (x := .fr (.int (((c : Nat) : Int) * (2 : Int)))) (y := .fr (.int (-1))) (o2_eq (x := .fr (.int ((c : Nat) : Int))) (y := .fr (.int 2)) rfl rfl (mul_r rfl)) rfl (mul_r rfl)) rfl]
    rfl
  · refine (fSeq_nx (ρ' := [some s, some (.fr (.int 3)), sv L, some (.fr (.int (z + ((c : Nat) : Int) * (1 : Int) * (1 : Int)))), some (.fr (.list (cntD L j))), some (.acc 4 [.int 6, .int 2, .int 1, .int 1]), some (.fr (.int 2)), some (.fr (.int (c : Nat))), none, none, none, none, none, none, none, none]) ?_).trans rfl
    unfold fSet
    rw [o2_eq (z := .fr (.int (z + ((c : Nat) : Int) * (1 : Int) * (1 : Int)))) (x := .fr (.int z)) (y := .fr (.int (((c : Nat) : Int) * (1 : Int) * (1 : Int)))) rfl (o2_eq (x := .fr (.int (((c : Nat) : Int) * (1 : Int)))) (y := .fr (.int (1))) (o2_eq (x := .fr (.int ((c : Nat) : Int))) (y := .fr (.int 1)) rfl rfl (mul_r rfl)) rfl (mul_r rfl)) rfl]
    rfl
  · refine (fSeq_nx (ρ' := [some s, some (.fr (.int 3)), sv L, some (.fr (.int (z + ((c : Nat) : Int) * (1 : Int) * (-1 : Int)))), some (.fr (.list (cntD L j))), some (.acc 4 [.int 6, .int 2, .int 1, .int 1]), some (.fr (.int 3)), some (.fr (.int (c : Nat))), none, none, none, none, none, none, none, none]) ?_).trans rfl
    unfold fSet
    rw [o2_eq (z := .fr (.int (z + ((c : Nat) : Int) * (1 : Int) * (-1 : Int)))) (x := .fr (.int z)) (y := .fr (.int (((c : Nat) : Int) * (1 : Int) * (-1 : Int)))) rfl (o2_eq (x := .fr (.int (((c : Nat) : Int) * (1 : Int)))) (y := .fr (.int (-1))) (o2_eq (x := .fr (.int ((c : Nat) : Int))) (y := .fr (.int 1)) rfl rfl (mul_r rfl)) rfl (mul_r rfl)) rfl]
    rfl
theorem row3 (s : Ob) (L : List Sq2) (j : Nat) (x3 x6 x7 x12 x13 x14 x15 : Option Ob) (z : Int) (p : List Nat) (hp : p ∈ arr 3) (hL : L.length ≤ 6) : (fSeq (fSet 12 (oL (g1 tupO) (lCons (oLc 16 [13, 14] (iEnumD (aCons (frV 9) aNil)) (gT 2 (gCons' (gN 13) (gCons' (gN 14) gNil'))) bYes (dTup (aCons (frV 13) (aCons (frV 14) aNil)))) lNil))) (fSeq (fIf (bO (o2 isnO (dCall 4 F_is_at_peace (aCons (kO (.str (PySem.Str.ofString "rook"))) (aCons (frV 1) (aCons (frV 1) (aCons (frV 12) aNil))))) (kO (.bool true)))) (fRet (kO (.bool false))) fNx) (fSeq (fSet 8 (o2 addO (rdV 8) (oL (g1 intO) (lCons (o2 eqO (oLc 16 [15] (iSeq (frV 12)) (gN 15) (bO (o2 inA (rdV 15) (rdV 2))) (kO (.int 1))) (dLst aNil)) lNil)))) (fSeq (fFz 8) fNx)))) [some s, some (.fr (.int 3)), sv L, x3, some (.fr (.list (cntD L j))), some (.acc 4 [.int 6, .int 2, .int 1, .int 1]), x6, x7, some (.fr (.int z)), sv p, none, none, x12, x13, x14, x15] = some (.nx [some s, some (.fr (.int 3)), sv L, x3, some (.fr (.list (cntD L j))), some (.acc 4 [.int 6, .int 2, .int 1, .int 1]), x6, x7, some (.fr (.int (z + if misses L p = true then 1 else 0))), sv p, none, none, sv (sqsF 0 p), x13, x14, x15]) := by
  have hlen : p.length = 3 := Nat.eq_of_beq_eq_true (List.all_eq_true.mp arl3 p hp)
  have h12 : oL (g1 tupO) (lCons (oLc 16 [13, 14] (iEnumD (aCons (frV 9) aNil)) (gT 2 (gCons' (gN 13) (gCons' (gN 14) gNil'))) bYes (dTup (aCons (frV 13) (aCons (frV 14) aNil)))) lNil) [some s, some (.fr (.int 3)), sv L, x3, some (.fr (.list (cntD L j))), some (.acc 4 [.int 6, .int 2, .int 1, .int 1]), x6, x7, some (.fr (.int z)), sv p, none, none, x12, x13, x14, x15] = some (ev (sqsF 0 p)) := by
    refine oL1_eq (oLm_eq (sqsF 0 p) e e rfl ?_ (by rw [sqs_len]; omega) fun q _ => ⟨[some s, some (.fr (.int 3)), sv L, x3, some (.fr (.list (cntD L j))), some (.acc 4 [.int 6, .int 2, .int 1, .int 1]), x6, x7, some (.fr (.int z)), sv p, none, none, x12, sv q.1, sv q.2, x15], rfl, _, rfl, rfl⟩) rfl
    show some (enumD 0 (p.map e)) = _
    rw [enum_sqs]
  refine (fSeq_nx (ρ' := [some s, some (.fr (.int 3)), sv L, x3, some (.fr (.list (cntD L j))), some (.acc 4 [.int 6, .int 2, .int 1, .int 1]), x6, x7, some (.fr (.int z)), sv p, none, none, sv (sqsF 0 p), x13, x14, x15]) ?_).trans ?_
  · unfold fSet; rw [h12]; rfl
  refine (fSeq_nx (ρ' := [some s, some (.fr (.int 3)), sv L, x3, some (.fr (.list (cntD L j))), some (.acc 4 [.int 6, .int 2, .int 1, .int 1]), x6, x7, some (.fr (.int z)), sv p, none, none, sv (sqsF 0 p), x13, x14, x15]) ?_).trans ?_
  · have h := call_eq (n := 4) (F := F_is_at_peace) (fd := (aCons (kO (.str (PySem.Str.ofString "rook"))) (aCons (frV 1) (aCons (frV 1) (aCons (frV 12) aNil))))) (ρ := [some s, some (.fr (.int 3)), sv L, x3, some (.fr (.list (cntD L j))), some (.acc 4 [.int 6, .int 2, .int 1, .int 1]), x6, x7, some (.fr (.int z)), sv p, none, none, sv (sqsF 0 p), x13, x14, x15]) rfl rfl (peace3 p hp)
    unfold fIf bO
    rw [o2_eq (z := .fr (.bool false)) h rfl rfl]; rfl
  have h15 : o2 eqO (oLc 16 [15] (iSeq (frV 12)) (gN 15) (bO (o2 inA (rdV 15) (rdV 2))) (kO (.int 1))) (dLst aNil) [some s, some (.fr (.int 3)), sv L, x3, some (.fr (.list (cntD L j))), some (.acc 4 [.int 6, .int 2, .int 1, .int 1]), x6, x7, some (.fr (.int z)), sv p, none, none, sv (sqsF 0 p), x13, x14, x15] = some (fB (misses L p)) := by
    have hl := oLc_eq (ρ := [some s, some (.fr (.int 3)), sv L, x3, some (.fr (.list (cntD L j))), some (.acc 4 [.int 6, .int 2, .int 1, .int 1]), x6, x7, some (.fr (.int z)), sv p, none, none, sv (sqsF 0 p), x13, x14, x15]) (n := 16) (vs := [15]) (fi := iSeq (frV 12)) (ga := gN 15) (tt := bO (o2 inA (rdV 15) (rdV 2))) (te := kO (.int 1)) (sqsF 0 p) e (fun q => decide (q ∈ L)) (fun _ => PyData.int 1) rfl rfl (by rw [sqs_len]; omega) fun q _ => ⟨[some s, some (.fr (.int 3)), sv L, x3, some (.fr (.list (cntD L j))), some (.acc 4 [.int 6, .int 2, .int 1, .int 1]), x6, x7, some (.fr (.int z)), sv p, none, none, sv (sqsF 0 p), x13, x14, sv q], rfl, bO_eq (o2_eq (x := ev q) (y := ev L) rfl rfl ((inA_tup (by decide) q L).trans (by congr))), fun _ => ⟨_, rfl, rfl⟩⟩
    have hm : ∀ l : List Sq2, l.map (fun _ => PyData.int 1) = (l.map fun _ => (1 : Nat)).map e := fun l => by rw [List.map_map]; rfl
    rw [hm] at hl
    refine o2_eq hl (y := .lst []) rfl ?_
    rw [eqO_l (α := Nat) (m := []) (by decide) rfl rfl, miss_sqs]
    congr 2
    rw [Bool.eq_iff_iff, decide_eq_true_iff, List.isEmpty_iff, List.map_eq_nil_iff]
  refine (fSeq_nx (ρ' := [some s, some (.fr (.int 3)), sv L, x3, some (.fr (.list (cntD L j))), some (.acc 4 [.int 6, .int 2, .int 1, .int 1]), x6, x7, some (.fr (.int (z + if misses L p = true then 1 else 0))), sv p, none, none, sv (sqsF 0 p), x13, x14, x15]) ?_).trans rfl
  unfold fSet
  rw [o2_eq (x := .fr (.int z)) (y := .fr (.int (if misses L p = true then 1 else 0))) (z := .fr (.int (z + if misses L p = true then 1 else 0))) rfl (oL1_eq h15 rfl) rfl]
  rfl
theorem hr3 (s : Ob) (hs : IsS s) : ∃ s', F__law_hits_right s [.int 3] = some (.fr (.bool true), s') ∧ IsS s' := by
  refine tr_F (b := b__law_hits_right) (m := 16) ?_
  rw [g__law_hits_right]
  obtain ⟨o, ρ', e0, L, s', l1, l2, l3, hs', rfl, rfl⟩ := lotw3 s hs
  refine tr_setE ⟨_, _, e0, ?_⟩
  have go : ∀ s : Ob, WS c1__law_hits_right [some s, some (.fr (.int 3)), sv L, none, none, none, none, none, none, none, none, none, none, none, none, none] (fun r => ∃ t, r = .rt (.fr (.bool true)) (some s :: t)) := by
    clear e0
    intro s
    obtain ⟨j, w1, w2, w3⟩ := S_within (.int 3) (.int 3) l2 (show L.length ≤ 8 by omega)
    have hdue := due_ok chk3 l1 l2 w1
    unfold c1__law_hits_right
    refine ws_nx (ρ1 := [some s, some (.fr (.int 3)), sv L, some (.fr (.int 0)), none, none, none, none, none, none, none, none, none, none, none, none]) rfl ?_
    refine ws_asg (call_eq (ds := [.int 3, .int 3, e L]) rfl rfl w3) ?_
    refine ws_nx (ρ1 := [some s, some (.fr (.int 3)), sv L, some (.fr (.int 0)), some (.fr (.list (cntD L j))), none, none, none, none, none, none, none, none, none, none, none]) rfl ?_
    refine ws_nx (ρ1 := [some s, some (.fr (.int 3)), sv L, some (.fr (.int 0)), some (.fr (.list (cntD L j))), some (.lst [.int 1]), none, none, none, none, none, none, none, none, none, none]) rfl ?_
    refine ws_nx (ρ1 := [some s, some (.fr (.int 3)), sv L, some (.fr (.int 0)), some (.fr (.list (cntD L j))), some (.acc 1 [.int 1]), none, none, none, none, none, none, none, none, none, none]) rfl ?_
    refine ws_seqW (ρ2 := [some s, some (.fr (.int 3)), sv L, some (.fr (.int 0)), some (.fr (.list (cntD L j))), some (.acc 4 [.int 6, .int 2, .int 1, .int 1]), none, none, none, none, none, none, none, none, none, none]) [6] (by kernel_rfl) fun xs hx => ?_
    match xs, hx with
    | [x6], _ =>
      refine ws_for (List.range j) (fun k => .tuple [.int (k : Nat), .int ((lev L k).length : Nat)]) (fun dn td ρ => ∃ x6 x7, ρ = [some s, some (.fr (.int 3)), sv L, some (.fr (.int (alt dn.length (gL3 L)))), some (.fr (.list (cntD L j))), some (.acc 4 [.int 6, .int 2, .int 1, .int 1]), x6, x7, none, none, none, none, none, none, none, none]) ?_ ⟨x6, none, rfl⟩ (fun dn k td ρ ⟨x6, x7, hρ⟩ hdn => ?_) fun ρ ⟨x6, x7, hρ⟩ => ?_
      · show some (enumD 0 (cntD L j)) = _
        unfold cntD
        rw [List.range_eq_range']
        exact congrArg some (enum_map (fun k => (lev L k).length) j 0)
      · subst hρ
        have hk : dn.length = k := by
          have h1 := congrArg (fun l : List Nat => l[dn.length]?) hdn
          have h2 : dn.length < j := by
            have := congrArg List.length hdn
            rw [List.length_append, List.length_cons, List.length_range] at this; omega
          simp [List.getElem?_range h2] at h1
          exact h1.symm
        have hj : k < j := by
          have := congrArg List.length hdn
          rw [List.length_append, List.length_cons, List.length_range] at this; omega
        subst hk
        refine ⟨[some s, some (.fr (.int 3)), sv L, some (.fr (.int (alt dn.length (gL3 L)))), some (.fr (.list (cntD L j))), some (.acc 4 [.int 6, .int 2, .int 1, .int 1]), some (.fr (.int (dn.length : Nat))), some (.fr (.int ((lev L dn.length).length : Nat))), none, none, none, none, none, none, none, none], rfl, ws_1 (due3 s L j dn.length _ (lev_n chk3 l1 l2 (w2 dn.length hj)) (lev_pow l2 (by omega) _)) ⟨some (.fr (.int (dn.length : Nat))), some (.fr (.int ((lev L dn.length).length : Nat))), ?_⟩⟩
        rw [List.length_append, List.length_singleton, alt_last]
      · subst hρ
        rw [List.length_range]
        have hd2 : alt j (gL3 L) = IE (arr 3) L := hdue.symm
        rw [hd2]
        refine ws_nx (ρ1 := [some s, some (.fr (.int 3)), sv L, some (.fr (.int (IE (arr 3) L))), some (.fr (.list (cntD L j))), some (.acc 4 [.int 6, .int 2, .int 1, .int 1]), x6, x7, some (.fr (.int 0)), none, none, none, none, none, none, none]) rfl ?_
        refine ws_for (arr 3) e (fun dn td ρ => ∃ x9 x12 x13 x14 x15, ρ = [some s, some (.fr (.int 3)), sv L, some (.fr (.int (IE (arr 3) L))), some (.fr (.list (cntD L j))), some (.acc 4 [.int 6, .int 2, .int 1, .int 1]), x6, x7, some (.fr (.int ((dn.countP (misses L) : Nat) : Int))), x9, none, none, x12, x13, x14, x15]) ?_ ⟨none, none, none, none, none, rfl⟩ (fun dn p td ρ ⟨x9, x12, x13, x14, x15, hρ⟩ hdn => ?_) fun ρ ⟨x9, x12, x13, x14, x15, hρ⟩ => ?_
        · exact iSeq_eq (call_eq (ds := [.int 3]) rfl rfl arrR3) rfl rfl
        · subst hρ
          refine ⟨[some s, some (.fr (.int 3)), sv L, some (.fr (.int (IE (arr 3) L))), some (.fr (.list (cntD L j))), some (.acc 4 [.int 6, .int 2, .int 1, .int 1]), x6, x7, some (.fr (.int ((dn.countP (misses L) : Nat) : Int))), sv p, none, none, x12, x13, x14, x15], rfl, ws_1 (row3 s L j _ x6 x7 x12 x13 x14 x15 _ p (by rw [← hdn]; simp) l3) ⟨sv p, sv (sqsF 0 p), x13, x14, x15, ?_⟩⟩
          have : (((dn ++ [p]).countP (misses L) : Nat) : Int) = (dn.countP (misses L) : Nat) + if misses L p = true then 1 else 0 := by
            rw [List.countP_append, List.countP_singleton]
            split <;> simp
          rw [this]
        · subst hρ
          have hz : (((arr 3).countP (misses L) : Nat) : Int) = IE (arr 3) L := rfl
          rw [hz]
          generalize IE (arr 3) L = z
          refine ws_nx (ρ1 := [some s, some (.fr (.int 3)), sv L, some (.fr (.int z)), some (.fr (.list (cntD L j))), some (.acc 4 [.int 6, .int 2, .int 1, .int 1]), x6, x7, some (.fr (.int z)), x9, some (.fr (.int 2)), none, x12, x13, x14, x15]) (by kernel_rfl) ?_
          refine ws_nx (ρ1 := [some s, some (.fr (.int 3)), sv L, some (.fr (.int z)), some (.fr (.list (cntD L j))), some (.acc 4 [.int 6, .int 2, .int 1, .int 1]), x6, x7, some (.fr (.int z)), x9, some (.fr (.int 2)), some (.fr (.int 2)), x12, x13, x14, x15]) (by kernel_rfl) ?_
          refine ws_rt (o := .fr (.bool true)) ?_ ⟨_, rfl⟩
          refine oAnd_eq (b := true) (c := true) (o2_eq (x := ev z) (y := ev z) rfl rfl ?_) fun _ => ?_
          · rw [eqO_e (by decide)]; simp
          · kernel_rfl
  obtain ⟨r, e1, t, rfl⟩ := go s'
  exact ⟨s', t, e1, hs'⟩
theorem arrR4 : F__law_arrangements [.int 4] = some (.fr (.list ((arr 4).map e))) := by kernel_rfl
theorem asc4 : Asc (sqB 4) := by unfold Asc; decide +kernel
theorem nod4 : (sqB 4).Nodup := by decide +kernel
theorem pe4_0 : ((((arr 4).drop 0).take 12).map fun p => F_is_at_peace [.str (PySem.Str.ofString "rook"), .int 4, .int 4, e (sqsF 0 p)]) = (((arr 4).drop 0).take 12).map fun _ => some (.fr (.bool true)) := by kernel_rfl
theorem pe4_1 : ((((arr 4).drop 12).take 12).map fun p => F_is_at_peace [.str (PySem.Str.ofString "rook"), .int 4, .int 4, e (sqsF 0 p)]) = (((arr 4).drop 12).take 12).map fun _ => some (.fr (.bool true)) := by kernel_rfl
theorem arl4 : (arr 4).all (fun p => Nat.beq p.length 4) = true := by kernel_rfl
theorem sp4 : arr 4 = ((arr 4).drop 0).take 12 ++ ((arr 4).drop 12).take 12 := by kernel_rfl
theorem peace4 : ∀ p ∈ arr 4, F_is_at_peace [.str (PySem.Str.ofString "rook"), .int 4, .int 4, e (sqsF 0 p)] = some (.fr (.bool true)) := by
  intro p hp
  rw [sp4] at hp
  simp only [List.mem_append] at hp
  rcases hp with (hp | hp)
  · exact map_eq pe4_0 p hp
  · exact map_eq pe4_1 p hp
theorem lotw4 (s : Ob) (hs : IsS s) : WE (e1L (g1 tupO) (e1L (g1 sortA) (eSl (eCallB 0 1 F__law_mixed (eaCons (eP (dCall 2 F__law_squares (aCons (frV 1) (aCons (frV 1) aNil)))) eaNil)) oNoneE (oSomeE (eCallB 0 1 F__law_pick (eaCons (eP (oL (g2 min2O) (lCons (kO (.int 7)) (lCons (o2 addO (o2 mulO (rdV 1) (rdV 1)) (kO (.int 1))) lNil)))) eaNil)))))) [some s, some (.fr (.int 4)), none, none, none, none, none, none, none, none, none, none, none, none, none, none] (fun o ρ' => ∃ L : List Sq2, ∃ s', L.Sublist (sqB 4) ∧ Asc L ∧ L.length ≤ 6 ∧ IsS s' ∧ o = ev L ∧ ρ' = [some s', some (.fr (.int 4)), none, none, none, none, none, none, none, none, none, none, none, none, none, none]) := by
  obtain ⟨ys, s1, e1, hp, hs1⟩ := mixed_run pick_ok hs ((sqB 4).map e) (by show _ ≤ 60000; exact Nat.le_of_ble_eq_true rfl)
  refine we_1L (we_1L (we_slT (we_callB ⟨s, rfl⟩ ⟨[.list ((sqB 4).map e)], [some s, some (.fr (.int 4)), none, none, none, none, none, none, none, none, none, none, none, none, none, none], by kernel_rfl, rfl, s, .fr (.list ys), s1, rfl, e1, .list ys, rfl, ?_⟩)))
  refine we_pick pick_ok (many := 7) hs1 rfl (by decide) (by decide) fun v s2 h0 h1 hs2 => ⟨v, rfl, ?_⟩
  obtain ⟨k, rfl⟩ : ∃ k : Nat, v = (k : Int) := ⟨v.toNat, by omega⟩
  obtain ⟨L, l1, l2, l3, l4⟩ := lot_made asc4 nod4 hp k (by omega)
  refine ⟨.lst (ys.take k), ?_, .list (ys.take k), rfl, .lst (L.map e), l4, .list (L.map e), rfl, ev L, rfl, L, s2, l1, l2, by omega, hs2, rfl, rfl⟩
  show some (Ob.lst (DL.cutD ys none (some ((k : Nat) : Int)))) = _
  have q : DL.cutD ys none (some ((k : Nat) : Int)) = ys.take k := by
    show (ys.drop 0).take (min k ys.length - 0) = _
    rw [List.drop_zero, Nat.sub_zero, List.take_eq_take_iff]; omega
  rw [q]
def gL4 (L : List Sq2) (k : Nat) : Int := ((lev L k).length : Int) * fac (4 - k)
theorem due4 (s : Ob) (L : List Sq2) (j k : Nat) (z : Int) (hk : k ≤ 4) (hl : (lev L k).length ≤ 256) : (fSeq (fSet 3 (o2 addO (rdV 3) (o2 mulO (o2 mulO (rdV 7) (o2 ixA (rdV 5) (o2 subI (rdV 1) (rdV 6)))) (oIf (bO (o2 eqO (o2 mulO (o2 divI (rdV 6) (kO (.int 2))) (kO (.int 2))) (rdV 6))) (kO (.int 1)) (o2 subI (kO (.int 0)) (kO (.int 1))))))) (fSeq (fFz 3) fNx)) [some s, some (.fr (.int 4)), sv L, some (.fr (.int z)), some (.fr (.list (cntD L j))), some (.acc 5 [.int 24, .int 6, .int 2, .int 1, .int 1]), some (.fr (.int (k : Nat))), some (.fr (.int ((lev L k).length : Nat))), none, none, none, none, none, none, none, none] = some (.nx [some s, some (.fr (.int 4)), sv L, some (.fr (.int (z + gL4 L k * sgn k))), some (.fr (.list (cntD L j))), some (.acc 5 [.int 24, .int 6, .int 2, .int 1, .int 1]), some (.fr (.int (k : Nat))), some (.fr (.int ((lev L k).length : Nat))), none, none, none, none, none, none, none, none]) := by
  obtain ⟨c, hc⟩ : ∃ c, (lev L k).length = c := ⟨_, rfl⟩
  rw [hc]
  have hk2 : k = 0 ∨ k = 1 ∨ k = 2 ∨ k = 3 ∨ k = 4 := by omega
  unfold gL4
  rw [hc]
  rcases hk2 with rfl | rfl | rfl | rfl | rfl
  · refine (fSeq_nx (ρ' := [some s, some (.fr (.int 4)), sv L, some (.fr (.int (z + ((c : Nat) : Int) * (24 : Int) * (1 : Int)))), some (.fr (.list (cntD L j))), some (.acc 5 [.int 24, .int 6, .int 2, .int 1, .int 1]), some (.fr (.int 0)), some (.fr (.int (c : Nat))), none, none, none, none, none, none, none, none]) ?_).trans rfl
    unfold fSet
    rw [o2_eq (z := .fr (.int (z + ((c : Nat) : Int) * (24 : Int) * (1 : Int)))) (x := .fr (.int z)) (y := .fr (.int (((c : Nat) : Int) * (24 : Int) * (1 : Int)))) rfl (o2_eq (x := .fr (.int (((c : Nat) : Int) * (24 : Int)))) (y := .fr (.int (1))) (o2_eq (x := .fr (.int ((c : Nat) : Int))) (y := .fr (.int 24)) rfl rfl (mul_r rfl)) rfl (mul_r rfl)) rfl]
    rfl
  · refine (fSeq_nx (ρ' := [some s, some (.fr (.int 4)), sv L, some (.fr (.int (z + ((c : Nat) : Int) * (6 : Int) * (-1 : Int)))), some (.fr (.list (cntD L j))), some (.acc 5 [.int 24, .int 6, .int 2, .int 1, .int 1]), some (.fr (.int 1)), some (.fr (.int (c : Nat))), none, none, none, none, none, none, none, none]) ?_).trans rfl
    unfold fSet
    rw [o2_eq (z := .fr (.int (z + ((c : Nat) : Int) * (6 : Int) * (-1 : Int)))) (x := .fr (.int z)) (y := .fr (.int (((c : Nat) : Int) * (6 : Int) * (-1 : Int)))) rfl (o2_eq (x := .fr (.int (((c : Nat) : Int) * (6 : Int)))) (y := .fr (.int (-1))) (o2_eq (x := .fr (.int ((c : Nat) : Int))) (y := .fr (.int 6)) rfl rfl (mul_r rfl)) rfl (mul_r rfl)) rfl]
    rfl
  · refine (fSeq_nx (ρ' := [some s, some (.fr (.int 4)), sv L, some (.fr (.int (z + ((c : Nat) : Int) * (2 : Int) * (1 : Int)))), some (.fr (.list (cntD L j))), some (.acc 5 [.int 24, .int 6, .int 2, .int 1, .int 1]), some (.fr (.int 2)), some (.fr (.int (c : Nat))), none, none, none, none, none, none, none, none]) ?_).trans rfl
    unfold fSet
    rw [o2_eq (z := .fr (.int (z + ((c : Nat) : Int) * (2 : Int) * (1 : Int)))) (x := .fr (.int z)) (y := .fr (.int (((c : Nat) : Int) * (2 : Int) * (1 : Int)))) rfl (o2_eq (x := .fr (.int (((c : Nat) : Int) * (2 : Int)))) (y := .fr (.int (1))) (o2_eq (x := .fr (.int ((c : Nat) : Int))) (y := .fr (.int 2)) rfl rfl (mul_r rfl)) rfl (mul_r rfl)) rfl]
    rfl
  · refine (fSeq_nx (ρ' := [some s, some (.fr (.int 4)), sv L, some (.fr (.int (z + ((c : Nat) : Int) * (1 : Int) * (-1 : Int)))), some (.fr (.list (cntD L j))), some (.acc 5 [.int 24, .int 6, .int 2, .int 1, .int 1]), some (.fr (.int 3)), some (.fr (.int (c : Nat))), none, none, none, none, none, none, none, none]) ?_).trans rfl
    unfold fSet
    rw [o2_eq (z := .fr (.int (z + ((c : Nat) : Int) * (1 : Int) * (-1 : Int)))) (x := .fr (.int z)) (y := .fr (.int (((c : Nat) : Int) * (1 : Int) * (-1 : Int)))) rfl (o2_eq (x := .fr (.int (((c : Nat) : Int) * (1 : Int)))) (y := .fr (.int (-1))) (o2_eq (x := .fr (.int ((c : Nat) : Int))) (y := .fr (.int 1)) rfl rfl (mul_r rfl)) rfl (mul_r rfl)) rfl]
    rfl
  · refine (fSeq_nx (ρ' := [some s, some (.fr (.int 4)), sv L, some (.fr (.int (z + ((c : Nat) : Int) * (1 : Int) * (1 : Int)))), some (.fr (.list (cntD L j))), some (.acc 5 [.int 24, .int 6, .int 2, .int 1, .int 1]), some (.fr (.int 4)), some (.fr (.int (c : Nat))), none, none, none, none, none, none, none, none]) ?_).trans rfl
    unfold fSet
    rw [o2_eq (z := .fr (.int (z + ((c : Nat) : Int) * (1 : Int) * (1 : Int)))) (x := .fr (.int z)) (y := .fr (.int (((c : Nat) : Int) * (1 : Int) * (1 : Int)))) rfl (o2_eq (x := .fr (.int (((c : Nat) : Int) * (1 : Int)))) (y := .fr (.int (1))) (o2_eq (x := .fr (.int ((c : Nat) : Int))) (y := .fr (.int 1)) rfl rfl (mul_r rfl)) rfl (mul_r rfl)) rfl]
    rfl
theorem row4 (s : Ob) (L : List Sq2) (j : Nat) (x3 x6 x7 x12 x13 x14 x15 : Option Ob) (z : Int) (p : List Nat) (hp : p ∈ arr 4) (hL : L.length ≤ 6) : (fSeq (fSet 12 (oL (g1 tupO) (lCons (oLc 16 [13, 14] (iEnumD (aCons (frV 9) aNil)) (gT 2 (gCons' (gN 13) (gCons' (gN 14) gNil'))) bYes (dTup (aCons (frV 13) (aCons (frV 14) aNil)))) lNil))) (fSeq (fIf (bO (o2 isnO (dCall 4 F_is_at_peace (aCons (kO (.str (PySem.Str.ofString "rook"))) (aCons (frV 1) (aCons (frV 1) (aCons (frV 12) aNil))))) (kO (.bool true)))) (fRet (kO (.bool false))) fNx) (fSeq (fSet 8 (o2 addO (rdV 8) (oL (g1 intO) (lCons (o2 eqO (oLc 16 [15] (iSeq (frV 12)) (gN 15) (bO (o2 inA (rdV 15) (rdV 2))) (kO (.int 1))) (dLst aNil)) lNil)))) (fSeq (fFz 8) fNx)))) [some s, some (.fr (.int 4)), sv L, x3, some (.fr (.list (cntD L j))), some (.acc 5 [.int 24, .int 6, .int 2, .int 1, .int 1]), x6, x7, some (.fr (.int z)), sv p, none, none, x12, x13, x14, x15] = some (.nx [some s, some (.fr (.int 4)), sv L, x3, some (.fr (.list (cntD L j))), some (.acc 5 [.int 24, .int 6, .int 2, .int 1, .int 1]), x6, x7, some (.fr (.int (z + if misses L p = true then 1 else 0))), sv p, none, none, sv (sqsF 0 p), x13, x14, x15]) := by
  have hlen : p.length = 4 := Nat.eq_of_beq_eq_true (List.all_eq_true.mp arl4 p hp)
  have h12 : oL (g1 tupO) (lCons (oLc 16 [13, 14] (iEnumD (aCons (frV 9) aNil)) (gT 2 (gCons' (gN 13) (gCons' (gN 14) gNil'))) bYes (dTup (aCons (frV 13) (aCons (frV 14) aNil)))) lNil) [some s, some (.fr (.int 4)), sv L, x3, some (.fr (.list (cntD L j))), some (.acc 5 [.int 24, .int 6, .int 2, .int 1, .int 1]), x6, x7, some (.fr (.int z)), sv p, none, none, x12, x13, x14, x15] = some (ev (sqsF 0 p)) := by
    refine oL1_eq (oLm_eq (sqsF 0 p) e e rfl ?_ (by rw [sqs_len]; omega) fun q _ => ⟨[some s, some (.fr (.int 4)), sv L, x3, some (.fr (.list (cntD L j))), some (.acc 5 [.int 24, .int 6, .int 2, .int 1, .int 1]), x6, x7, some (.fr (.int z)), sv p, none, none, x12, sv q.1, sv q.2, x15], rfl, _, rfl, rfl⟩) rfl
    show some (enumD 0 (p.map e)) = _
    rw [enum_sqs]
  refine (fSeq_nx (ρ' := [some s, some (.fr (.int 4)), sv L, x3, some (.fr (.list (cntD L j))), some (.acc 5 [.int 24, .int 6, .int 2, .int 1, .int 1]), x6, x7, some (.fr (.int z)), sv p, none, none, sv (sqsF 0 p), x13, x14, x15]) ?_).trans ?_
  · unfold fSet; rw [h12]; rfl
  refine (fSeq_nx (ρ' := [some s, some (.fr (.int 4)), sv L, x3, some (.fr (.list (cntD L j))), some (.acc 5 [.int 24, .int 6, .int 2, .int 1, .int 1]), x6, x7, some (.fr (.int z)), sv p, none, none, sv (sqsF 0 p), x13, x14, x15]) ?_).trans ?_
  · have h := call_eq (n := 4) (F := F_is_at_peace) (fd := (aCons (kO (.str (PySem.Str.ofString "rook"))) (aCons (frV 1) (aCons (frV 1) (aCons (frV 12) aNil))))) (ρ := [some s, some (.fr (.int 4)), sv L, x3, some (.fr (.list (cntD L j))), some (.acc 5 [.int 24, .int 6, .int 2, .int 1, .int 1]), x6, x7, some (.fr (.int z)), sv p, none, none, sv (sqsF 0 p), x13, x14, x15]) rfl rfl (peace4 p hp)
    unfold fIf bO
    rw [o2_eq (z := .fr (.bool false)) h rfl rfl]; rfl
  have h15 : o2 eqO (oLc 16 [15] (iSeq (frV 12)) (gN 15) (bO (o2 inA (rdV 15) (rdV 2))) (kO (.int 1))) (dLst aNil) [some s, some (.fr (.int 4)), sv L, x3, some (.fr (.list (cntD L j))), some (.acc 5 [.int 24, .int 6, .int 2, .int 1, .int 1]), x6, x7, some (.fr (.int z)), sv p, none, none, sv (sqsF 0 p), x13, x14, x15] = some (fB (misses L p)) := by
    have hl := oLc_eq (ρ := [some s, some (.fr (.int 4)), sv L, x3, some (.fr (.list (cntD L j))), some (.acc 5 [.int 24, .int 6, .int 2, .int 1, .int 1]), x6, x7, some (.fr (.int z)), sv p, none, none, sv (sqsF 0 p), x13, x14, x15]) (n := 16) (vs := [15]) (fi := iSeq (frV 12)) (ga := gN 15) (tt := bO (o2 inA (rdV 15) (rdV 2))) (te := kO (.int 1)) (sqsF 0 p) e (fun q => decide (q ∈ L)) (fun _ => PyData.int 1) rfl rfl (by rw [sqs_len]; omega) fun q _ => ⟨[some s, some (.fr (.int 4)), sv L, x3, some (.fr (.list (cntD L j))), some (.acc 5 [.int 24, .int 6, .int 2, .int 1, .int 1]), x6, x7, some (.fr (.int z)), sv p, none, none, sv (sqsF 0 p), x13, x14, sv q], rfl, bO_eq (o2_eq (x := ev q) (y := ev L) rfl rfl ((inA_tup (by decide) q L).trans (by congr))), fun _ => ⟨_, rfl, rfl⟩⟩
    have hm : ∀ l : List Sq2, l.map (fun _ => PyData.int 1) = (l.map fun _ => (1 : Nat)).map e := fun l => by rw [List.map_map]; rfl
    rw [hm] at hl
    refine o2_eq hl (y := .lst []) rfl ?_
    rw [eqO_l (α := Nat) (m := []) (by decide) rfl rfl, miss_sqs]
    congr 2
    rw [Bool.eq_iff_iff, decide_eq_true_iff, List.isEmpty_iff, List.map_eq_nil_iff]
  refine (fSeq_nx (ρ' := [some s, some (.fr (.int 4)), sv L, x3, some (.fr (.list (cntD L j))), some (.acc 5 [.int 24, .int 6, .int 2, .int 1, .int 1]), x6, x7, some (.fr (.int (z + if misses L p = true then 1 else 0))), sv p, none, none, sv (sqsF 0 p), x13, x14, x15]) ?_).trans rfl
  unfold fSet
  rw [o2_eq (x := .fr (.int z)) (y := .fr (.int (if misses L p = true then 1 else 0))) (z := .fr (.int (z + if misses L p = true then 1 else 0))) rfl (oL1_eq h15 rfl) rfl]
  rfl
theorem hr4 (s : Ob) (hs : IsS s) : ∃ s', F__law_hits_right s [.int 4] = some (.fr (.bool true), s') ∧ IsS s' := by
  refine tr_F (b := b__law_hits_right) (m := 16) ?_
  rw [g__law_hits_right]
  obtain ⟨o, ρ', e0, L, s', l1, l2, l3, hs', rfl, rfl⟩ := lotw4 s hs
  refine tr_setE ⟨_, _, e0, ?_⟩
  have go : ∀ s : Ob, WS c1__law_hits_right [some s, some (.fr (.int 4)), sv L, none, none, none, none, none, none, none, none, none, none, none, none, none] (fun r => ∃ t, r = .rt (.fr (.bool true)) (some s :: t)) := by
    clear e0
    intro s
    obtain ⟨j, w1, w2, w3⟩ := S_within (.int 4) (.int 4) l2 (show L.length ≤ 8 by omega)
    have hdue := due_ok chk4 l1 l2 w1
    unfold c1__law_hits_right
    refine ws_nx (ρ1 := [some s, some (.fr (.int 4)), sv L, some (.fr (.int 0)), none, none, none, none, none, none, none, none, none, none, none, none]) rfl ?_
    refine ws_asg (call_eq (ds := [.int 4, .int 4, e L]) rfl rfl w3) ?_
    refine ws_nx (ρ1 := [some s, some (.fr (.int 4)), sv L, some (.fr (.int 0)), some (.fr (.list (cntD L j))), none, none, none, none, none, none, none, none, none, none, none]) rfl ?_
    refine ws_nx (ρ1 := [some s, some (.fr (.int 4)), sv L, some (.fr (.int 0)), some (.fr (.list (cntD L j))), some (.lst [.int 1]), none, none, none, none, none, none, none, none, none, none]) rfl ?_
    refine ws_nx (ρ1 := [some s, some (.fr (.int 4)), sv L, some (.fr (.int 0)), some (.fr (.list (cntD L j))), some (.acc 1 [.int 1]), none, none, none, none, none, none, none, none, none, none]) rfl ?_
    refine ws_seqW (ρ2 := [some s, some (.fr (.int 4)), sv L, some (.fr (.int 0)), some (.fr (.list (cntD L j))), some (.acc 5 [.int 24, .int 6, .int 2, .int 1, .int 1]), none, none, none, none, none, none, none, none, none, none]) [6] (by kernel_rfl) fun xs hx => ?_
    match xs, hx with
    | [x6], _ =>
      refine ws_for (List.range j) (fun k => .tuple [.int (k : Nat), .int ((lev L k).length : Nat)]) (fun dn td ρ => ∃ x6 x7, ρ = [some s, some (.fr (.int 4)), sv L, some (.fr (.int (alt dn.length (gL4 L)))), some (.fr (.list (cntD L j))), some (.acc 5 [.int 24, .int 6, .int 2, .int 1, .int 1]), x6, x7, none, none, none, none, none, none, none, none]) ?_ ⟨x6, none, rfl⟩ (fun dn k td ρ ⟨x6, x7, hρ⟩ hdn => ?_) fun ρ ⟨x6, x7, hρ⟩ => ?_
      · show some (enumD 0 (cntD L j)) = _
        unfold cntD
        rw [List.range_eq_range']
        exact congrArg some (enum_map (fun k => (lev L k).length) j 0)
      · subst hρ
        have hk : dn.length = k := by
          have h1 := congrArg (fun l : List Nat => l[dn.length]?) hdn
          have h2 : dn.length < j := by
            have := congrArg List.length hdn
            rw [List.length_append, List.length_cons, List.length_range] at this; omega
          simp [List.getElem?_range h2] at h1
          exact h1.symm
        have hj : k < j := by
          have := congrArg List.length hdn
          rw [List.length_append, List.length_cons, List.length_range] at this; omega
        subst hk
        refine ⟨[some s, some (.fr (.int 4)), sv L, some (.fr (.int (alt dn.length (gL4 L)))), some (.fr (.list (cntD L j))), some (.acc 5 [.int 24, .int 6, .int 2, .int 1, .int 1]), some (.fr (.int (dn.length : Nat))), some (.fr (.int ((lev L dn.length).length : Nat))), none, none, none, none, none, none, none, none], rfl, ws_1 (due4 s L j dn.length _ (lev_n chk4 l1 l2 (w2 dn.length hj)) (lev_pow l2 (by omega) _)) ⟨some (.fr (.int (dn.length : Nat))), some (.fr (.int ((lev L dn.length).length : Nat))), ?_⟩⟩
        rw [List.length_append, List.length_singleton, alt_last]
      · subst hρ
        rw [List.length_range]
        have hd2 : alt j (gL4 L) = IE (arr 4) L := hdue.symm
        rw [hd2]
        refine ws_nx (ρ1 := [some s, some (.fr (.int 4)), sv L, some (.fr (.int (IE (arr 4) L))), some (.fr (.list (cntD L j))), some (.acc 5 [.int 24, .int 6, .int 2, .int 1, .int 1]), x6, x7, some (.fr (.int 0)), none, none, none, none, none, none, none]) rfl ?_
        refine ws_for (arr 4) e (fun dn td ρ => ∃ x9 x12 x13 x14 x15, ρ = [some s, some (.fr (.int 4)), sv L, some (.fr (.int (IE (arr 4) L))), some (.fr (.list (cntD L j))), some (.acc 5 [.int 24, .int 6, .int 2, .int 1, .int 1]), x6, x7, some (.fr (.int ((dn.countP (misses L) : Nat) : Int))), x9, none, none, x12, x13, x14, x15]) ?_ ⟨none, none, none, none, none, rfl⟩ (fun dn p td ρ ⟨x9, x12, x13, x14, x15, hρ⟩ hdn => ?_) fun ρ ⟨x9, x12, x13, x14, x15, hρ⟩ => ?_
        · exact iSeq_eq (call_eq (ds := [.int 4]) rfl rfl arrR4) rfl rfl
        · subst hρ
          refine ⟨[some s, some (.fr (.int 4)), sv L, some (.fr (.int (IE (arr 4) L))), some (.fr (.list (cntD L j))), some (.acc 5 [.int 24, .int 6, .int 2, .int 1, .int 1]), x6, x7, some (.fr (.int ((dn.countP (misses L) : Nat) : Int))), sv p, none, none, x12, x13, x14, x15], rfl, ws_1 (row4 s L j _ x6 x7 x12 x13 x14 x15 _ p (by rw [← hdn]; simp) l3) ⟨sv p, sv (sqsF 0 p), x13, x14, x15, ?_⟩⟩
          have : (((dn ++ [p]).countP (misses L) : Nat) : Int) = (dn.countP (misses L) : Nat) + if misses L p = true then 1 else 0 := by
            rw [List.countP_append, List.countP_singleton]
            split <;> simp
          rw [this]
        · subst hρ
          have hz : (((arr 4).countP (misses L) : Nat) : Int) = IE (arr 4) L := rfl
          rw [hz]
          generalize IE (arr 4) L = z
          refine ws_nx (ρ1 := [some s, some (.fr (.int 4)), sv L, some (.fr (.int z)), some (.fr (.list (cntD L j))), some (.acc 5 [.int 24, .int 6, .int 2, .int 1, .int 1]), x6, x7, some (.fr (.int z)), x9, some (.fr (.int 9)), none, x12, x13, x14, x15]) (by kernel_rfl) ?_
          refine ws_nx (ρ1 := [some s, some (.fr (.int 4)), sv L, some (.fr (.int z)), some (.fr (.list (cntD L j))), some (.acc 5 [.int 24, .int 6, .int 2, .int 1, .int 1]), x6, x7, some (.fr (.int z)), x9, some (.fr (.int 9)), some (.fr (.int 9)), x12, x13, x14, x15]) (by kernel_rfl) ?_
          refine ws_rt (o := .fr (.bool true)) ?_ ⟨_, rfl⟩
          refine oAnd_eq (b := true) (c := true) (o2_eq (x := ev z) (y := ev z) rfl rfl ?_) fun _ => ?_
          · rw [eqO_e (by decide)]; simp
          · kernel_rfl
  obtain ⟨r, e1, t, rfl⟩ := go s'
  exact ⟨s', t, e1, hs'⟩
theorem arrR5 : F__law_arrangements [.int 5] = some (.fr (.list ((arr 5).map e))) := by kernel_rfl
theorem asc5 : Asc (sqB 5) := by unfold Asc; decide +kernel
theorem nod5 : (sqB 5).Nodup := by decide +kernel
theorem pe5_0 : ((((arr 5).drop 0).take 20).map fun p => F_is_at_peace [.str (PySem.Str.ofString "rook"), .int 5, .int 5, e (sqsF 0 p)]) = (((arr 5).drop 0).take 20).map fun _ => some (.fr (.bool true)) := by kernel_rfl
theorem pe5_1 : ((((arr 5).drop 20).take 20).map fun p => F_is_at_peace [.str (PySem.Str.ofString "rook"), .int 5, .int 5, e (sqsF 0 p)]) = (((arr 5).drop 20).take 20).map fun _ => some (.fr (.bool true)) := by kernel_rfl
theorem pe5_2 : ((((arr 5).drop 40).take 20).map fun p => F_is_at_peace [.str (PySem.Str.ofString "rook"), .int 5, .int 5, e (sqsF 0 p)]) = (((arr 5).drop 40).take 20).map fun _ => some (.fr (.bool true)) := by kernel_rfl
theorem pe5_3 : ((((arr 5).drop 60).take 20).map fun p => F_is_at_peace [.str (PySem.Str.ofString "rook"), .int 5, .int 5, e (sqsF 0 p)]) = (((arr 5).drop 60).take 20).map fun _ => some (.fr (.bool true)) := by kernel_rfl
theorem pe5_4 : ((((arr 5).drop 80).take 20).map fun p => F_is_at_peace [.str (PySem.Str.ofString "rook"), .int 5, .int 5, e (sqsF 0 p)]) = (((arr 5).drop 80).take 20).map fun _ => some (.fr (.bool true)) := by kernel_rfl
theorem pe5_5 : ((((arr 5).drop 100).take 20).map fun p => F_is_at_peace [.str (PySem.Str.ofString "rook"), .int 5, .int 5, e (sqsF 0 p)]) = (((arr 5).drop 100).take 20).map fun _ => some (.fr (.bool true)) := by kernel_rfl
theorem arl5 : (arr 5).all (fun p => Nat.beq p.length 5) = true := by kernel_rfl
theorem sp5 : arr 5 = ((arr 5).drop 0).take 20 ++ ((arr 5).drop 20).take 20 ++ ((arr 5).drop 40).take 20 ++ ((arr 5).drop 60).take 20 ++ ((arr 5).drop 80).take 20 ++ ((arr 5).drop 100).take 20 := by kernel_rfl
theorem peace5 : ∀ p ∈ arr 5, F_is_at_peace [.str (PySem.Str.ofString "rook"), .int 5, .int 5, e (sqsF 0 p)] = some (.fr (.bool true)) := by
  intro p hp
  rw [sp5] at hp
  simp only [List.mem_append] at hp
  rcases hp with (((((hp | hp) | hp) | hp) | hp) | hp)
  · exact map_eq pe5_0 p hp
  · exact map_eq pe5_1 p hp
  · exact map_eq pe5_2 p hp
  · exact map_eq pe5_3 p hp
  · exact map_eq pe5_4 p hp
  · exact map_eq pe5_5 p hp
theorem lotw5 (s : Ob) (hs : IsS s) : WE (e1L (g1 tupO) (e1L (g1 sortA) (eSl (eCallB 0 1 F__law_mixed (eaCons (eP (dCall 2 F__law_squares (aCons (frV 1) (aCons (frV 1) aNil)))) eaNil)) oNoneE (oSomeE (eCallB 0 1 F__law_pick (eaCons (eP (oL (g2 min2O) (lCons (kO (.int 7)) (lCons (o2 addO (o2 mulO (rdV 1) (rdV 1)) (kO (.int 1))) lNil)))) eaNil)))))) [some s, some (.fr (.int 5)), none, none, none, none, none, none, none, none, none, none, none, none, none, none] (fun o ρ' => ∃ L : List Sq2, ∃ s', L.Sublist (sqB 5) ∧ Asc L ∧ L.length ≤ 6 ∧ IsS s' ∧ o = ev L ∧ ρ' = [some s', some (.fr (.int 5)), none, none, none, none, none, none, none, none, none, none, none, none, none, none]) := by
  obtain ⟨ys, s1, e1, hp, hs1⟩ := mixed_run pick_ok hs ((sqB 5).map e) (by show _ ≤ 60000; exact Nat.le_of_ble_eq_true rfl)
  refine we_1L (we_1L (we_slT (we_callB ⟨s, rfl⟩ ⟨[.list ((sqB 5).map e)], [some s, some (.fr (.int 5)), none, none, none, none, none, none, none, none, none, none, none, none, none, none], by kernel_rfl, rfl, s, .fr (.list ys), s1, rfl, e1, .list ys, rfl, ?_⟩)))
  refine we_pick pick_ok (many := 7) hs1 rfl (by decide) (by decide) fun v s2 h0 h1 hs2 => ⟨v, rfl, ?_⟩
  obtain ⟨k, rfl⟩ : ∃ k : Nat, v = (k : Int) := ⟨v.toNat, by omega⟩
  obtain ⟨L, l1, l2, l3, l4⟩ := lot_made asc5 nod5 hp k (by omega)
  refine ⟨.lst (ys.take k), ?_, .list (ys.take k), rfl, .lst (L.map e), l4, .list (L.map e), rfl, ev L, rfl, L, s2, l1, l2, by omega, hs2, rfl, rfl⟩
  show some (Ob.lst (DL.cutD ys none (some ((k : Nat) : Int)))) = _
  have q : DL.cutD ys none (some ((k : Nat) : Int)) = ys.take k := by
    show (ys.drop 0).take (min k ys.length - 0) = _
    rw [List.drop_zero, Nat.sub_zero, List.take_eq_take_iff]; omega
  rw [q]
def gL5 (L : List Sq2) (k : Nat) : Int := ((lev L k).length : Int) * fac (5 - k)
theorem due5 (s : Ob) (L : List Sq2) (j k : Nat) (z : Int) (hk : k ≤ 5) (hl : (lev L k).length ≤ 256) : (fSeq (fSet 3 (o2 addO (rdV 3) (o2 mulO (o2 mulO (rdV 7) (o2 ixA (rdV 5) (o2 subI (rdV 1) (rdV 6)))) (oIf (bO (o2 eqO (o2 mulO (o2 divI (rdV 6) (kO (.int 2))) (kO (.int 2))) (rdV 6))) (kO (.int 1)) (o2 subI (kO (.int 0)) (kO (.int 1))))))) (fSeq (fFz 3) fNx)) [some s, some (.fr (.int 5)), sv L, some (.fr (.int z)), some (.fr (.list (cntD L j))), some (.acc 6 [.int 120, .int 24, .int 6, .int 2, .int 1, .int 1]), some (.fr (.int (k : Nat))), some (.fr (.int ((lev L k).length : Nat))), none, none, none, none, none, none, none, none] = some (.nx [some s, some (.fr (.int 5)), sv L, some (.fr (.int (z + gL5 L k * sgn k))), some (.fr (.list (cntD L j))), some (.acc 6 [.int 120, .int 24, .int 6, .int 2, .int 1, .int 1]), some (.fr (.int (k : Nat))), some (.fr (.int ((lev L k).length : Nat))), none, none, none, none, none, none, none, none]) := by
  obtain ⟨c, hc⟩ : ∃ c, (lev L k).length = c := ⟨_, rfl⟩
  rw [hc]
  have hk2 : k = 0 ∨ k = 1 ∨ k = 2 ∨ k = 3 ∨ k = 4 ∨ k = 5 := by omega
  unfold gL5
  rw [hc]
  rcases hk2 with rfl | rfl | rfl | rfl | rfl | rfl
  · refine (fSeq_nx (ρ' := [some s, some (.fr (.int 5)), sv L, some (.fr (.int (z + ((c : Nat) : Int) * (120 : Int) * (1 : Int)))), some (.fr (.list (cntD L j))), some (.acc 6 [.int 120, .int 24, .int 6, .int 2, .int 1, .int 1]), some (.fr (.int 0)), some (.fr (.int (c : Nat))), none, none, none, none, none, none, none, none]) ?_).trans rfl
    unfold fSet
    rw [o2_eq (z := .fr (.int (z + ((c : Nat) : Int) * (120 : Int) * (1 : Int)))) (x := .fr (.int z)) (y := .fr (.int (((c : Nat) : Int) * (120 : Int) * (1 : Int)))) rfl (o2_eq (x := .fr (.int (((c : Nat) : Int) * (120 : Int)))) (y := .fr (.int (1))) (o2_eq (x := .fr (.int ((c : Nat) : Int))) (y := .fr (.int 120)) rfl rfl (mul_r rfl)) rfl (mul_r rfl)) rfl]
    rfl
  · refine (fSeq_nx (ρ' := [some s, some (.fr (.int 5)), sv L, some (.fr (.int (z + ((c : Nat) : Int) * (24 : Int) * (-1 : Int)))), some (.fr (.list (cntD L j))), some (.acc 6 [.int 120, .int 24, .int 6, .int 2, .int 1, .int 1]), some (.fr (.int 1)), some (.fr (.int (c : Nat))), none, none, none, none, none, none, none, none]) ?_).trans rfl
    unfold fSet
    rw [o2_eq (z := .fr (.int (z + ((c : Nat) : Int) * (24 : Int) * (-1 : Int)))) (x := .fr (.int z)) (y := .fr (.int (((c : Nat) : Int) * (24 : Int) * (-1 : Int)))) rfl (o2_eq (x := .fr (.int (((c : Nat) : Int) * (24 : Int)))) (y := .fr (.int (-1))) (o2_eq (x := .fr (.int ((c : Nat) : Int))) (y := .fr (.int 24)) rfl rfl (mul_r rfl)) rfl (mul_r rfl)) rfl]
    rfl
  · refine (fSeq_nx (ρ' := [some s, some (.fr (.int 5)), sv L, some (.fr (.int (z + ((c : Nat) : Int) * (6 : Int) * (1 : Int)))), some (.fr (.list (cntD L j))), some (.acc 6 [.int 120, .int 24, .int 6, .int 2, .int 1, .int 1]), some (.fr (.int 2)), some (.fr (.int (c : Nat))), none, none, none, none, none, none, none, none]) ?_).trans rfl
    unfold fSet
    rw [o2_eq (z := .fr (.int (z + ((c : Nat) : Int) * (6 : Int) * (1 : Int)))) (x := .fr (.int z)) (y := .fr (.int (((c : Nat) : Int) * (6 : Int) * (1 : Int)))) rfl (o2_eq (x := .fr (.int (((c : Nat) : Int) * (6 : Int)))) (y := .fr (.int (1))) (o2_eq (x := .fr (.int ((c : Nat) : Int))) (y := .fr (.int 6)) rfl rfl (mul_r rfl)) rfl (mul_r rfl)) rfl]
    rfl
  · refine (fSeq_nx (ρ' := [some s, some (.fr (.int 5)), sv L, some (.fr (.int (z + ((c : Nat) : Int) * (2 : Int) * (-1 : Int)))), some (.fr (.list (cntD L j))), some (.acc 6 [.int 120, .int 24, .int 6, .int 2, .int 1, .int 1]), some (.fr (.int 3)), some (.fr (.int (c : Nat))), none, none, none, none, none, none, none, none]) ?_).trans rfl
    unfold fSet
    rw [o2_eq (z := .fr (.int (z + ((c : Nat) : Int) * (2 : Int) * (-1 : Int)))) (x := .fr (.int z)) (y := .fr (.int (((c : Nat) : Int) * (2 : Int) * (-1 : Int)))) rfl (o2_eq (x := .fr (.int (((c : Nat) : Int) * (2 : Int)))) (y := .fr (.int (-1))) (o2_eq (x := .fr (.int ((c : Nat) : Int))) (y := .fr (.int 2)) rfl rfl (mul_r rfl)) rfl (mul_r rfl)) rfl]
    rfl
  · refine (fSeq_nx (ρ' := [some s, some (.fr (.int 5)), sv L, some (.fr (.int (z + ((c : Nat) : Int) * (1 : Int) * (1 : Int)))), some (.fr (.list (cntD L j))), some (.acc 6 [.int 120, .int 24, .int 6, .int 2, .int 1, .int 1]), some (.fr (.int 4)), some (.fr (.int (c : Nat))), none, none, none, none, none, none, none, none]) ?_).trans rfl
    unfold fSet
    rw [o2_eq (z := .fr (.int (z + ((c : Nat) : Int) * (1 : Int) * (1 : Int)))) (x := .fr (.int z)) (y := .fr (.int (((c : Nat) : Int) * (1 : Int) * (1 : Int)))) rfl (o2_eq (x := .fr (.int (((c : Nat) : Int) * (1 : Int)))) (y := .fr (.int (1))) (o2_eq (x := .fr (.int ((c : Nat) : Int))) (y := .fr (.int 1)) rfl rfl (mul_r rfl)) rfl (mul_r rfl)) rfl]
    rfl
  · refine (fSeq_nx (ρ' := [some s, some (.fr (.int 5)), sv L, some (.fr (.int (z + ((c : Nat) : Int) * (1 : Int) * (-1 : Int)))), some (.fr (.list (cntD L j))), some (.acc 6 [.int 120, .int 24, .int 6, .int 2, .int 1, .int 1]), some (.fr (.int 5)), some (.fr (.int (c : Nat))), none, none, none, none, none, none, none, none]) ?_).trans rfl
    unfold fSet
    rw [o2_eq (z := .fr (.int (z + ((c : Nat) : Int) * (1 : Int) * (-1 : Int)))) (x := .fr (.int z)) (y := .fr (.int (((c : Nat) : Int) * (1 : Int) * (-1 : Int)))) rfl (o2_eq (x := .fr (.int (((c : Nat) : Int) * (1 : Int)))) (y := .fr (.int (-1))) (o2_eq (x := .fr (.int ((c : Nat) : Int))) (y := .fr (.int 1)) rfl rfl (mul_r rfl)) rfl (mul_r rfl)) rfl]
    rfl
theorem row5 (s : Ob) (L : List Sq2) (j : Nat) (x3 x6 x7 x12 x13 x14 x15 : Option Ob) (z : Int) (p : List Nat) (hp : p ∈ arr 5) (hL : L.length ≤ 6) : (fSeq (fSet 12 (oL (g1 tupO) (lCons (oLc 16 [13, 14] (iEnumD (aCons (frV 9) aNil)) (gT 2 (gCons' (gN 13) (gCons' (gN 14) gNil'))) bYes (dTup (aCons (frV 13) (aCons (frV 14) aNil)))) lNil))) (fSeq (fIf (bO (o2 isnO (dCall 4 F_is_at_peace (aCons (kO (.str (PySem.Str.ofString "rook"))) (aCons (frV 1) (aCons (frV 1) (aCons (frV 12) aNil))))) (kO (.bool true)))) (fRet (kO (.bool false))) fNx) (fSeq (fSet 8 (o2 addO (rdV 8) (oL (g1 intO) (lCons (o2 eqO (oLc 16 [15] (iSeq (frV 12)) (gN 15) (bO (o2 inA (rdV 15) (rdV 2))) (kO (.int 1))) (dLst aNil)) lNil)))) (fSeq (fFz 8) fNx)))) [some s, some (.fr (.int 5)), sv L, x3, some (.fr (.list (cntD L j))), some (.acc 6 [.int 120, .int 24, .int 6, .int 2, .int 1, .int 1]), x6, x7, some (.fr (.int z)), sv p, none, none, x12, x13, x14, x15] = some (.nx [some s, some (.fr (.int 5)), sv L, x3, some (.fr (.list (cntD L j))), some (.acc 6 [.int 120, .int 24, .int 6, .int 2, .int 1, .int 1]), x6, x7, some (.fr (.int (z + if misses L p = true then 1 else 0))), sv p, none, none, sv (sqsF 0 p), x13, x14, x15]) := by
  have hlen : p.length = 5 := Nat.eq_of_beq_eq_true (List.all_eq_true.mp arl5 p hp)
  have h12 : oL (g1 tupO) (lCons (oLc 16 [13, 14] (iEnumD (aCons (frV 9) aNil)) (gT 2 (gCons' (gN 13) (gCons' (gN 14) gNil'))) bYes (dTup (aCons (frV 13) (aCons (frV 14) aNil)))) lNil) [some s, some (.fr (.int 5)), sv L, x3, some (.fr (.list (cntD L j))), some (.acc 6 [.int 120, .int 24, .int 6, .int 2, .int 1, .int 1]), x6, x7, some (.fr (.int z)), sv p, none, none, x12, x13, x14, x15] = some (ev (sqsF 0 p)) := by
    refine oL1_eq (oLm_eq (sqsF 0 p) e e rfl ?_ (by rw [sqs_len]; omega) fun q _ => ⟨[some s, some (.fr (.int 5)), sv L, x3, some (.fr (.list (cntD L j))), some (.acc 6 [.int 120, .int 24, .int 6, .int 2, .int 1, .int 1]), x6, x7, some (.fr (.int z)), sv p, none, none, x12, sv q.1, sv q.2, x15], rfl, _, rfl, rfl⟩) rfl
    show some (enumD 0 (p.map e)) = _
    rw [enum_sqs]
  refine (fSeq_nx (ρ' := [some s, some (.fr (.int 5)), sv L, x3, some (.fr (.list (cntD L j))), some (.acc 6 [.int 120, .int 24, .int 6, .int 2, .int 1, .int 1]), x6, x7, some (.fr (.int z)), sv p, none, none, sv (sqsF 0 p), x13, x14, x15]) ?_).trans ?_
  · unfold fSet; rw [h12]; rfl
  refine (fSeq_nx (ρ' := [some s, some (.fr (.int 5)), sv L, x3, some (.fr (.list (cntD L j))), some (.acc 6 [.int 120, .int 24, .int 6, .int 2, .int 1, .int 1]), x6, x7, some (.fr (.int z)), sv p, none, none, sv (sqsF 0 p), x13, x14, x15]) ?_).trans ?_
  · have h := call_eq (n := 4) (F := F_is_at_peace) (fd := (aCons (kO (.str (PySem.Str.ofString "rook"))) (aCons (frV 1) (aCons (frV 1) (aCons (frV 12) aNil))))) (ρ := [some s, some (.fr (.int 5)), sv L, x3, some (.fr (.list (cntD L j))), some (.acc 6 [.int 120, .int 24, .int 6, .int 2, .int 1, .int 1]), x6, x7, some (.fr (.int z)), sv p, none, none, sv (sqsF 0 p), x13, x14, x15]) rfl rfl (peace5 p hp)
    unfold fIf bO
    rw [o2_eq (z := .fr (.bool false)) h rfl rfl]; rfl
  have h15 : o2 eqO (oLc 16 [15] (iSeq (frV 12)) (gN 15) (bO (o2 inA (rdV 15) (rdV 2))) (kO (.int 1))) (dLst aNil) [some s, some (.fr (.int 5)), sv L, x3, some (.fr (.list (cntD L j))), some (.acc 6 [.int 120, .int 24, .int 6, .int 2, .int 1, .int 1]), x6, x7, some (.fr (.int z)), sv p, none, none, sv (sqsF 0 p), x13, x14, x15] = some (fB (misses L p)) := by
    have hl := oLc_eq (ρ := [some s, some (.fr (.int 5)), sv L, x3, some (.fr (.list (cntD L j))), some (.acc 6 [.int 120, .int 24, .int 6, .int 2, .int 1, .int 1]), x6, x7, some (.fr (.int z)), sv p, none, none, sv (sqsF 0 p), x13, x14, x15]) (n := 16) (vs := [15]) (fi := iSeq (frV 12)) (ga := gN 15) (tt := bO (o2 inA (rdV 15) (rdV 2))) (te := kO (.int 1)) (sqsF 0 p) e (fun q => decide (q ∈ L)) (fun _ => PyData.int 1) rfl rfl (by rw [sqs_len]; omega) fun q _ => ⟨[some s, some (.fr (.int 5)), sv L, x3, some (.fr (.list (cntD L j))), some (.acc 6 [.int 120, .int 24, .int 6, .int 2, .int 1, .int 1]), x6, x7, some (.fr (.int z)), sv p, none, none, sv (sqsF 0 p), x13, x14, sv q], rfl, bO_eq (o2_eq (x := ev q) (y := ev L) rfl rfl ((inA_tup (by decide) q L).trans (by congr))), fun _ => ⟨_, rfl, rfl⟩⟩
    have hm : ∀ l : List Sq2, l.map (fun _ => PyData.int 1) = (l.map fun _ => (1 : Nat)).map e := fun l => by rw [List.map_map]; rfl
    rw [hm] at hl
    refine o2_eq hl (y := .lst []) rfl ?_
    rw [eqO_l (α := Nat) (m := []) (by decide) rfl rfl, miss_sqs]
    congr 2
    rw [Bool.eq_iff_iff, decide_eq_true_iff, List.isEmpty_iff, List.map_eq_nil_iff]
  refine (fSeq_nx (ρ' := [some s, some (.fr (.int 5)), sv L, x3, some (.fr (.list (cntD L j))), some (.acc 6 [.int 120, .int 24, .int 6, .int 2, .int 1, .int 1]), x6, x7, some (.fr (.int (z + if misses L p = true then 1 else 0))), sv p, none, none, sv (sqsF 0 p), x13, x14, x15]) ?_).trans rfl
  unfold fSet
  rw [o2_eq (x := .fr (.int z)) (y := .fr (.int (if misses L p = true then 1 else 0))) (z := .fr (.int (z + if misses L p = true then 1 else 0))) rfl (oL1_eq h15 rfl) rfl]
  rfl
theorem hr5 (s : Ob) (hs : IsS s) : ∃ s', F__law_hits_right s [.int 5] = some (.fr (.bool true), s') ∧ IsS s' := by
  refine tr_F (b := b__law_hits_right) (m := 16) ?_
  rw [g__law_hits_right]
  obtain ⟨o, ρ', e0, L, s', l1, l2, l3, hs', rfl, rfl⟩ := lotw5 s hs
  refine tr_setE ⟨_, _, e0, ?_⟩
  have go : ∀ s : Ob, WS c1__law_hits_right [some s, some (.fr (.int 5)), sv L, none, none, none, none, none, none, none, none, none, none, none, none, none] (fun r => ∃ t, r = .rt (.fr (.bool true)) (some s :: t)) := by
    clear e0
    intro s
    obtain ⟨j, w1, w2, w3⟩ := S_within (.int 5) (.int 5) l2 (show L.length ≤ 8 by omega)
    have hdue := due_ok chk5 l1 l2 w1
    unfold c1__law_hits_right
    refine ws_nx (ρ1 := [some s, some (.fr (.int 5)), sv L, some (.fr (.int 0)), none, none, none, none, none, none, none, none, none, none, none, none]) rfl ?_
    refine ws_asg (call_eq (ds := [.int 5, .int 5, e L]) rfl rfl w3) ?_
    refine ws_nx (ρ1 := [some s, some (.fr (.int 5)), sv L, some (.fr (.int 0)), some (.fr (.list (cntD L j))), none, none, none, none, none, none, none, none, none, none, none]) rfl ?_
    refine ws_nx (ρ1 := [some s, some (.fr (.int 5)), sv L, some (.fr (.int 0)), some (.fr (.list (cntD L j))), some (.lst [.int 1]), none, none, none, none, none, none, none, none, none, none]) rfl ?_
    refine ws_nx (ρ1 := [some s, some (.fr (.int 5)), sv L, some (.fr (.int 0)), some (.fr (.list (cntD L j))), some (.acc 1 [.int 1]), none, none, none, none, none, none, none, none, none, none]) rfl ?_
    refine ws_seqW (ρ2 := [some s, some (.fr (.int 5)), sv L, some (.fr (.int 0)), some (.fr (.list (cntD L j))), some (.acc 6 [.int 120, .int 24, .int 6, .int 2, .int 1, .int 1]), none, none, none, none, none, none, none, none, none, none]) [6] (by kernel_rfl) fun xs hx => ?_
    match xs, hx with
    | [x6], _ =>
      refine ws_for (List.range j) (fun k => .tuple [.int (k : Nat), .int ((lev L k).length : Nat)]) (fun dn td ρ => ∃ x6 x7, ρ = [some s, some (.fr (.int 5)), sv L, some (.fr (.int (alt dn.length (gL5 L)))), some (.fr (.list (cntD L j))), some (.acc 6 [.int 120, .int 24, .int 6, .int 2, .int 1, .int 1]), x6, x7, none, none, none, none, none, none, none, none]) ?_ ⟨x6, none, rfl⟩ (fun dn k td ρ ⟨x6, x7, hρ⟩ hdn => ?_) fun ρ ⟨x6, x7, hρ⟩ => ?_
      · show some (enumD 0 (cntD L j)) = _
        unfold cntD
        rw [List.range_eq_range']
        exact congrArg some (enum_map (fun k => (lev L k).length) j 0)
      · subst hρ
        have hk : dn.length = k := by
          have h1 := congrArg (fun l : List Nat => l[dn.length]?) hdn
          have h2 : dn.length < j := by
            have := congrArg List.length hdn
            rw [List.length_append, List.length_cons, List.length_range] at this; omega
          simp [List.getElem?_range h2] at h1
          exact h1.symm
        have hj : k < j := by
          have := congrArg List.length hdn
          rw [List.length_append, List.length_cons, List.length_range] at this; omega
        subst hk
        refine ⟨[some s, some (.fr (.int 5)), sv L, some (.fr (.int (alt dn.length (gL5 L)))), some (.fr (.list (cntD L j))), some (.acc 6 [.int 120, .int 24, .int 6, .int 2, .int 1, .int 1]), some (.fr (.int (dn.length : Nat))), some (.fr (.int ((lev L dn.length).length : Nat))), none, none, none, none, none, none, none, none], rfl, ws_1 (due5 s L j dn.length _ (lev_n chk5 l1 l2 (w2 dn.length hj)) (lev_pow l2 (by omega) _)) ⟨some (.fr (.int (dn.length : Nat))), some (.fr (.int ((lev L dn.length).length : Nat))), ?_⟩⟩
        rw [List.length_append, List.length_singleton, alt_last]
      · subst hρ
        rw [List.length_range]
        have hd2 : alt j (gL5 L) = IE (arr 5) L := hdue.symm
        rw [hd2]
        refine ws_nx (ρ1 := [some s, some (.fr (.int 5)), sv L, some (.fr (.int (IE (arr 5) L))), some (.fr (.list (cntD L j))), some (.acc 6 [.int 120, .int 24, .int 6, .int 2, .int 1, .int 1]), x6, x7, some (.fr (.int 0)), none, none, none, none, none, none, none]) rfl ?_
        refine ws_for (arr 5) e (fun dn td ρ => ∃ x9 x12 x13 x14 x15, ρ = [some s, some (.fr (.int 5)), sv L, some (.fr (.int (IE (arr 5) L))), some (.fr (.list (cntD L j))), some (.acc 6 [.int 120, .int 24, .int 6, .int 2, .int 1, .int 1]), x6, x7, some (.fr (.int ((dn.countP (misses L) : Nat) : Int))), x9, none, none, x12, x13, x14, x15]) ?_ ⟨none, none, none, none, none, rfl⟩ (fun dn p td ρ ⟨x9, x12, x13, x14, x15, hρ⟩ hdn => ?_) fun ρ ⟨x9, x12, x13, x14, x15, hρ⟩ => ?_
        · exact iSeq_eq (call_eq (ds := [.int 5]) rfl rfl arrR5) rfl rfl
        · subst hρ
          refine ⟨[some s, some (.fr (.int 5)), sv L, some (.fr (.int (IE (arr 5) L))), some (.fr (.list (cntD L j))), some (.acc 6 [.int 120, .int 24, .int 6, .int 2, .int 1, .int 1]), x6, x7, some (.fr (.int ((dn.countP (misses L) : Nat) : Int))), sv p, none, none, x12, x13, x14, x15], rfl, ws_1 (row5 s L j _ x6 x7 x12 x13 x14 x15 _ p (by rw [← hdn]; simp) l3) ⟨sv p, sv (sqsF 0 p), x13, x14, x15, ?_⟩⟩
          have : (((dn ++ [p]).countP (misses L) : Nat) : Int) = (dn.countP (misses L) : Nat) + if misses L p = true then 1 else 0 := by
            rw [List.countP_append, List.countP_singleton]
            split <;> simp
          rw [this]
        · subst hρ
          have hz : (((arr 5).countP (misses L) : Nat) : Int) = IE (arr 5) L := rfl
          rw [hz]
          generalize IE (arr 5) L = z
          refine ws_nx (ρ1 := [some s, some (.fr (.int 5)), sv L, some (.fr (.int z)), some (.fr (.list (cntD L j))), some (.acc 6 [.int 120, .int 24, .int 6, .int 2, .int 1, .int 1]), x6, x7, some (.fr (.int z)), x9, some (.fr (.int 44)), none, x12, x13, x14, x15]) (by kernel_rfl) ?_
          refine ws_nx (ρ1 := [some s, some (.fr (.int 5)), sv L, some (.fr (.int z)), some (.fr (.list (cntD L j))), some (.acc 6 [.int 120, .int 24, .int 6, .int 2, .int 1, .int 1]), x6, x7, some (.fr (.int z)), x9, some (.fr (.int 44)), some (.fr (.int 44)), x12, x13, x14, x15]) (by kernel_rfl) ?_
          refine ws_rt (o := .fr (.bool true)) ?_ ⟨_, rfl⟩
          refine oAnd_eq (b := true) (c := true) (o2_eq (x := ev z) (y := ev z) rfl rfl ?_) fun _ => ?_
          · rw [eqO_e (by decide)]; simp
          · kernel_rfl
  obtain ⟨r, e1, t, rfl⟩ := go s'
  exact ⟨s', t, e1, hs'⟩
end LW

namespace LW
open PySem PySem.Spec PyProof.Rows L2 DL
open Enc
theorem we_of1 {s : Ob} {x : Option Ob} {t : DL.Env} {fl : FDE} {l : List PyData} {Q : Ob → DL.Env → Prop} (hs : IsS s) (ha : fl (x :: some s :: t) = some ([.list l], x :: some s :: t)) (h1 : 1 ≤ l.length) (h2 : l.length < 1000) (h : ∀ d ∈ l, ∀ s', IsS s' → Q (.fr d) (x :: some s' :: t)) : WE (eCallB 1 1 F__law_of fl) (x :: some s :: t) Q := by
  obtain ⟨o, ρ', e, q⟩ : WE (e2O ixO (eP (frV 1)) (eCallB 0 1 F__law_pick (eaCons (eP (oL (g1 lenA) (lCons (rdV 1) lNil))) eaNil))) [some s, some (.fr (.list l))] (fun o ρ' => ∃ d ∈ l, ∃ s', IsS s' ∧ o = .fr d ∧ ρ' = [some s', some (.fr (.list l))]) := by
    refine we_2 (we_p (o := .fr (.list l)) rfl ⟨.list l, rfl, ?_⟩)
    refine we_pick pick_ok (many := l.length) hs rfl (by omega) (by omega) fun v s' h0 h1 hs' => ⟨.int v, rfl, ?_⟩
    obtain ⟨n, rfl⟩ : ∃ n : Nat, v = Int.ofNat n := ⟨v.toNat, (Int.toNat_of_nonneg h0).symm⟩
    have hn : n < l.length := Int.ofNat_lt.mp h1
    refine ⟨.fr l[n], ?_, l[n], List.getElem_mem hn, s', hs', rfl, rfl⟩
    show (l[n]?).bind _ = _
    rw [List.getElem?_eq_getElem hn]
    rfl
  obtain ⟨d, hd, s', hs', rfl, rfl⟩ := q
  refine we_callB ⟨s, rfl⟩ ⟨[.list l], _, ha, rfl, s, .fr d, s', rfl, ?_, h d hd s' hs'⟩
  show ((fRetE (e2O ixO (eP (frV 1)) (eCallB 0 1 F__law_pick (eaCons (eP (oL (g1 lenA) (lCons (rdV 1) lNil))) eaNil))) [some s, some (.fr (.list l))]).bind _) = _
  unfold fRetE
  rw [e]
  rfl

theorem form_ok (x y4 y5 y6 y7 y8 y14 y15 y16 : Option Ob) (s : Ob) (m n k : Int) (hm : m = 2 ∨ m = 3 ∨ m = 4 ∨ m = 5 ∨ m = 6 ∨ m = 7 ∨ m = 8) (hn : n ∈ ([0, 1, 2, 3, 4, 5, 6, 7] : List Int)) (hk : k ∈ ([0, 1, 2, 3, 4, 5, 6, 7] : List Int)) : nxW [2, 3, 4, 5, 6, 7, 8, 9, 10, 11, 12, 13, 14, 15, 16] tail10 [x, some s, some (.fr (.int m)), some (.fr (.int (1 + n))), y4, y5, y6, y7, y8, some (.fr (.int (1 + k))), none, none, none, none, y14, y15, y16] = some [x, some s, none, none, none, none, none, none, none, none, none, none, none, none, none, none, none] := by
  rcases hm with rfl | rfl | rfl | rfl | rfl | rfl | rfl
  · exact map_eq (map_eq (fm2 x y4 y5 y6 y7 y8 y14 y15 y16 s) n hn) k hk
  · exact map_eq (map_eq (fm3 x y4 y5 y6 y7 y8 y14 y15 y16 s) n hn) k hk
  · exact map_eq (map_eq (fm4 x y4 y5 y6 y7 y8 y14 y15 y16 s) n hn) k hk
  · exact map_eq (map_eq (fm5 x y4 y5 y6 y7 y8 y14 y15 y16 s) n hn) k hk
  · exact map_eq (map_eq (fm6 x y4 y5 y6 y7 y8 y14 y15 y16 s) n hn) k hk
  · exact map_eq (map_eq (fm7 x y4 y5 y6 y7 y8 y14 y15 y16 s) n hn) k hk
  · exact map_eq (map_eq (fm8 x y4 y5 y6 y7 y8 y14 y15 y16 s) n hn) k hk
theorem ea1 {f : FE} {ρ ρ' : DL.Env} {o : Ob} {d : PyData} (h : f ρ = some (o, ρ')) (hd : fz o = some d) : eaCons f eaNil ρ = some ([d], ρ') := by
  unfold eaCons
  rw [h, Option.bind_some, hd]; rfl
theorem in8 {v : Int} (h0 : 0 ≤ v) (h1 : v < 8) : v ∈ ([0, 1, 2, 3, 4, 5, 6, 7] : List Int) := by
  have : v = 0 ∨ v = 1 ∨ v = 2 ∨ v = 3 ∨ v = 4 ∨ v = 5 ∨ v = 6 ∨ v = 7 := by omega
  rcases this with rfl | rfl | rfl | rfl | rfl | rfl | rfl | rfl <;> simp
theorem hr_ok (s : Ob) (hs : IsS s) (v : Int) (h0 : 0 ≤ v) (h1 : v < 5) : ∃ s', F__law_hits_right s [.int (1 + v)] = some (.fr (.bool true), s') ∧ IsS s' := by
  have : v = 0 ∨ v = 1 ∨ v = 2 ∨ v = 3 ∨ v = 4 := by omega
  rcases this with rfl | rfl | rfl | rfl | rfl
  · exact hr1 s hs
  · exact hr2 s hs
  · exact hr3 s hs
  · exact hr4 s hs
  · exact hr5 s hs
theorem split_tail : tail9 = fSeq c9_law (fSeq tail10 c22_law) := by
  unfold tail9 tail10
  have a : ∀ f g h : FS, fSeq f (fSeq g h) = fSeq (fSeq f g) h := fun f g h => by
    funext ρ
    unfold fSeq
    cases f ρ with
    | none => rfl
    | some r => cases r <;> rfl
  simp only [a]
theorem tail9_ok (x : Option Ob) (s : Ob) (hs : IsS s) (y2 y3 y4 y5 y6 y7 y8 y14 y15 y16 : Option Ob) : WS tail9 [x, some s, y2, y3, y4, y5, y6, y7, y8, none, none, none, none, none, y14, y15, y16] (Good x) := by
  rw [split_tail]
  refine ws_tg (we_tup3 (we_add (we_pick1 pick_ok hs rfl (by decide) (by decide) fun m s1 m0 m1 hs1 => ⟨m, rfl, .int (2 + m), rfl, we_add (we_pick1 pick_ok hs1 rfl (by decide) (by decide) fun n s2 n0 n1 hs2 => ⟨n, rfl, .int (1 + n), rfl, we_add (we_pick1 pick_ok hs2 rfl (by decide) (by decide) fun k s3 k0 k1 hs3 => ⟨k, rfl, .int (1 + k), rfl, .tuple [.int (2 + m), .int (1 + n), .int (1 + k)], _, rfl, rfl, ?_⟩)⟩)⟩)))
  refine ws_seqW (ρ2 := [x, some s3, none, none, none, none, none, none, none, none, none, none, none, none, none, none, none]) [2, 3, 4, 5, 6, 7, 8, 9, 10, 11, 12, 13, 14, 15, 16] (form_ok x y4 y5 y6 y7 y8 y14 y15 y16 s3 (2 + m) n k (by omega) (in8 n0 n1) (in8 k0 k1)) fun xs hx => ?_
  match xs, hx with
  | [a2, a3, a4, a5, a6, a7, a8, a9, a10, a11, a12, a13, a14, a15, a16], _ =>
    refine (show WS c22_law [x, some s3, a2, a3, a4, a5, a6, a7, a8, a9, a10, a11, a12, a13, a14, a15, a16] (Good x) from ?_)
    refine ws_ret ?_
    obtain ⟨o, ρ', e1, v, v0, v1, s4, hs4, rfl, rfl⟩ : WE (e2O addO (eP (kO (.int 1))) (eCallB 1 1 F__law_pick (eaCons (eP (kO (.int 5))) eaNil))) [x, some s3, a2, a3, a4, a5, a6, a7, a8, a9, a10, a11, a12, a13, a14, a15, a16] (fun o ρ' => ∃ v, 0 ≤ v ∧ v < 5 ∧ ∃ s4, IsS s4 ∧ o = .fr (.int (1 + v)) ∧ ρ' = [x, some s4, a2, a3, a4, a5, a6, a7, a8, a9, a10, a11, a12, a13, a14, a15, a16]) :=
      we_add (we_pick1 pick_ok hs3 rfl (by decide) (by decide) fun v s4 v0 v1 hs4 => ⟨v, rfl, v, v0, v1, s4, hs4, rfl, rfl⟩)
    obtain ⟨s5, e5, hs5⟩ := hr_ok s4 hs4 v v0 v1
    refine we_callB ⟨s3, rfl⟩ ⟨[.int (1 + v)], [x, some s4, a2, a3, a4, a5, a6, a7, a8, a9, a10, a11, a12, a13, a14, a15, a16], ea1 e1 rfl, rfl, s4, .fr (.bool true), s5, rfl, e5, ⟨_, rfl⟩⟩
theorem boards_ok (x : Option Ob) (s : Ob) (hs : IsS s) : WS (fSeq c1_law tail2) [x, some s, none, none, none, none, none, none, none, none, none, none, none, none, none, none, none] (Good x) := by
  refine ws_tg (we_of1 (l := [((1 : Int), (1 : Int)), ((1 : Int), (4 : Int)), ((2 : Int), (2 : Int)), ((2 : Int), (3 : Int)), ((3 : Int), (2 : Int)), ((2 : Int), (4 : Int)), ((3 : Int), (3 : Int))].map fun p => .tuple [.int p.1, .int p.2]) hs rfl (by decide) (by decide) fun d hd s' hs' => ⟨d, ?_⟩)
  have hv : d = .tuple [.int 1, .int 1] ∨ d = .tuple [.int 1, .int 4] ∨ d = .tuple [.int 2, .int 2] ∨ d = .tuple [.int 2, .int 3] ∨ d = .tuple [.int 3, .int 2] ∨ d = .tuple [.int 2, .int 4] ∨ d = .tuple [.int 3, .int 3] := by simpa using hd
  rcases hv with rfl | rfl | rfl | rfl | rfl | rfl | rfl
  · exact ⟨_, rfl, rfl, b11 x s' _ fun _ _ _ _ _ _ _ _ _ _ => tail9_ok x s' hs' _ _ _ _ _ _ _ _ _ _⟩
  · exact ⟨_, rfl, rfl, b14 x s' _ fun _ _ _ _ _ _ _ _ _ _ => tail9_ok x s' hs' _ _ _ _ _ _ _ _ _ _⟩
  · exact ⟨_, rfl, rfl, b22 x s' _ fun _ _ _ _ _ _ _ _ _ _ => tail9_ok x s' hs' _ _ _ _ _ _ _ _ _ _⟩
  · exact ⟨_, rfl, rfl, b23 x s' _ fun _ _ _ _ _ _ _ _ _ _ => tail9_ok x s' hs' _ _ _ _ _ _ _ _ _ _⟩
  · exact ⟨_, rfl, rfl, b32 x s' _ fun _ _ _ _ _ _ _ _ _ _ => tail9_ok x s' hs' _ _ _ _ _ _ _ _ _ _⟩
  · exact ⟨_, rfl, rfl, b24 x s' _ fun _ _ _ _ _ _ _ _ _ _ => tail9_ok x s' hs' _ _ _ _ _ _ _ _ _ _⟩
  · exact ⟨_, rfl, rfl, b33 x s' _ fun _ _ _ _ _ _ _ _ _ _ => tail9_ok x s' hs' _ _ _ _ _ _ _ _ _ _⟩
theorem law_holds (ns : List Int) (hl : ns.length ≤ 63) : ∃ o', F_law (.scr ns) [] = some (.fr (.bool true), o') := by
  refine law_end (b := b_law) (m := 17) ?_
  have e0 : b_law = fSeq c0_law (fSeq c1_law tail2) := g_law
  rw [e0]
  obtain ⟨l, a, b, c, e⟩ := source_ok ns hl
  refine ws_set (we_callB ⟨_, rfl⟩ ⟨[], _, rfl, rfl, .scr ns, _, _, rfl, e, ?_⟩)
  obtain ⟨r, e2, t, rfl⟩ := boards_ok (some (.scr ns)) (.src l a b c) (IsS.mk l a b c)
  exact ⟨_, e2, _, _, rfl⟩
end LW

namespace LW
open PySem PySem.Spec PyProof.Rows L2 DL
/-! ## the head -/
def dOf (x : Str) (i : Nat) : He.DefD := ⟨(x, none), x, x, defArgs (top i), defBody (top i), defScope (top i), [], []⟩
def fn : List He.DefD := ([dOf (PySem.Str.ofString "times_itself") 1, dOf (PySem.Str.ofString "falling_product") 2, dOf (PySem.Str.ofString "rook_number") 3, dOf (PySem.Str.ofString "rook_lots") 4, dOf (PySem.Str.ofString "rook_peaces") 5, dOf (PySem.Str.ofString "watch_as_rooks") 6, dOf (PySem.Str.ofString "all_squares") 9, dOf (PySem.Str.ofString "how_far") 10, dOf (PySem.Str.ofString "reached_squares") 11, dOf (PySem.Str.ofString "watched_squares") 12, dOf (PySem.Str.ofString "is_watching_board") 13, dOf (PySem.Str.ofString "is_at_peace") 14, dOf (PySem.Str.ofString "next_lots") 15, dOf (PySem.Str.ofString "least_lots") 16, dOf (PySem.Str.ofString "least_pieces") 17, dOf (PySem.Str.ofString "peaceful_next") 18, dOf (PySem.Str.ofString "most_at_peace") 19, dOf (PySem.Str.ofString "_law_source") 21, dOf (PySem.Str.ofString "_law_pick") 22, dOf (PySem.Str.ofString "_law_of") 23, dOf (PySem.Str.ofString "_law_mixed") 24, dOf (PySem.Str.ofString "_law_all_lots") 25, dOf (PySem.Str.ofString "_law_choose") 26, dOf (PySem.Str.ofString "_law_squares") 27, dOf (PySem.Str.ofString "_law_all_watching") 28, dOf (PySem.Str.ofString "_law_arrangements") 29, dOf (PySem.Str.ofString "_law_within") 30, dOf (PySem.Str.ofString "_law_hits_right") 31, dOf (PySem.Str.ofString "law") 32] : List He.DefD)
def fa : List He.Fa := ([He.Fa.glo (PySem.Str.ofString "times_itself"), He.Fa.glo (PySem.Str.ofString "falling_product"), He.Fa.glo (PySem.Str.ofString "rook_number"), He.Fa.glo (PySem.Str.ofString "rook_lots"), He.Fa.glo (PySem.Str.ofString "rook_peaces"), He.Fa.glo (PySem.Str.ofString "watch_as_rooks"), He.Fa.glo (PySem.Str.ofString "all_squares"), He.Fa.glo (PySem.Str.ofString "how_far"), He.Fa.glo (PySem.Str.ofString "reached_squares"), He.Fa.glo (PySem.Str.ofString "watched_squares"), He.Fa.glo (PySem.Str.ofString "is_watching_board"), He.Fa.glo (PySem.Str.ofString "is_at_peace"), He.Fa.glo (PySem.Str.ofString "next_lots"), He.Fa.glo (PySem.Str.ofString "least_lots"), He.Fa.glo (PySem.Str.ofString "least_pieces"), He.Fa.glo (PySem.Str.ofString "peaceful_next"), He.Fa.glo (PySem.Str.ofString "most_at_peace"), He.Fa.glo (PySem.Str.ofString "_law_source"), He.Fa.glo (PySem.Str.ofString "_law_pick"), He.Fa.glo (PySem.Str.ofString "_law_of"), He.Fa.glo (PySem.Str.ofString "_law_mixed"), He.Fa.glo (PySem.Str.ofString "_law_all_lots"), He.Fa.glo (PySem.Str.ofString "_law_choose"), He.Fa.glo (PySem.Str.ofString "_law_squares"), He.Fa.glo (PySem.Str.ofString "_law_all_watching"), He.Fa.glo (PySem.Str.ofString "_law_arrangements"), He.Fa.glo (PySem.Str.ofString "_law_within"), He.Fa.glo (PySem.Str.ofString "_law_hits_right"), He.Fa.glo (PySem.Str.ofString "law"), He.Fa.glo (PySem.Str.ofString "STEPS"), He.Fa.free (PySem.Str.ofString "abs"), He.Fa.free (PySem.Str.ofString "any"), He.Fa.free (PySem.Str.ofString "enumerate"), He.Fa.free (PySem.Str.ofString "int"), He.Fa.free (PySem.Str.ofString "len"), He.Fa.free (PySem.Str.ofString "list"), He.Fa.free (PySem.Str.ofString "max"), He.Fa.free (PySem.Str.ofString "min"), He.Fa.free (PySem.Str.ofString "range"), He.Fa.free (PySem.Str.ofString "sorted")] : List He.Fa) ++ ([He.Fa.free (PySem.Str.ofString "sum"), He.Fa.free (PySem.Str.ofString "tuple")] : List He.Fa)
def loose : List PySem.Str := ([(PySem.Str.ofString "times_itself"), (PySem.Str.ofString "falling_product"), (PySem.Str.ofString "rook_number"), (PySem.Str.ofString "rook_lots"), (PySem.Str.ofString "rook_peaces"), (PySem.Str.ofString "watch_as_rooks"), (PySem.Str.ofString "all_squares"), (PySem.Str.ofString "how_far"), (PySem.Str.ofString "reached_squares"), (PySem.Str.ofString "watched_squares"), (PySem.Str.ofString "is_watching_board"), (PySem.Str.ofString "is_at_peace"), (PySem.Str.ofString "next_lots"), (PySem.Str.ofString "least_lots"), (PySem.Str.ofString "least_pieces"), (PySem.Str.ofString "peaceful_next"), (PySem.Str.ofString "most_at_peace"), (PySem.Str.ofString "_law_source"), (PySem.Str.ofString "_law_pick"), (PySem.Str.ofString "_law_of"), (PySem.Str.ofString "_law_mixed"), (PySem.Str.ofString "_law_all_lots"), (PySem.Str.ofString "_law_choose"), (PySem.Str.ofString "_law_squares"), (PySem.Str.ofString "_law_all_watching"), (PySem.Str.ofString "_law_arrangements"), (PySem.Str.ofString "_law_within"), (PySem.Str.ofString "_law_hits_right"), (PySem.Str.ofString "STEPS")] : List PySem.Str)
def ts : List He.Tab := [(fun K => He.ga K (PySem.Str.ofString "STEPS"), [(PySem.Str.ofString "rook"), (PySem.Str.ofString "bishop"), (PySem.Str.ofString "queen"), (PySem.Str.ofString "king"), (PySem.Str.ofString "knight")])]
def ex (K : PySem.W.Frag) : Bool := tabsOk (PySem.Str.ofString "STEPS") t_STEPS K
abbrev R : PySem.W.OpenRow := PySem.W.OpenLaw.row PySem.Challenge.rw_placesdefended_k29_whole_rooks_counted_b
abbrev hk : PySem.W.Hook := He.hookX 4 fa fn ts [] ex
def ob (s : PySem.W.SharedT) : He.AlX := He.obsX 4 fa fn ts [] ex (HandSHeadRun.getT s)
theorem ob_eq (s : PySem.W.SharedT) : ob s = hk.obs s.abs := He.obsX_eq (HandSHeadRun.getT_eq s)
set_option maxHeartbeats 0 in
theorem run (w : World) : HandSHeadRun.RunEq R (PySem.W.view R.prog [32]) hk ob 4000 loose w := by
  refine PySem.W.byRow2 "special-get-raises" (P := fun w => HandSHeadRun.RunEq R (PySem.W.view R.prog [32]) hk ob 4000 loose w) (fun w => ?_) (fun w => ?_) w <;> (intro os; kernel_rfl)
theorem hd_of {w : World} {K : PySem.W.Frag} {h : Heap} {mg : Str → Option Value} (Kh : K.In h) (G : h.Ns mainGlobals mg) (c : He.SaysX fa fn ts [] ex w h K) : Hd w K mg where
  fr_abs := He.free_ok Kh G (c.t.d.fact 30 (f := .free (PySem.Str.ofString "abs")) rfl)
  fr_any := He.free_ok Kh G (c.t.d.fact 31 (f := .free (PySem.Str.ofString "any")) rfl)
  fr_enumerate := He.free_ok Kh G (c.t.d.fact 32 (f := .free (PySem.Str.ofString "enumerate")) rfl)
  fr_int := He.free_ok Kh G (c.t.d.fact 33 (f := .free (PySem.Str.ofString "int")) rfl)
  fr_len := He.free_ok Kh G (c.t.d.fact 34 (f := .free (PySem.Str.ofString "len")) rfl)
  fr_list := He.free_ok Kh G (c.t.d.fact 35 (f := .free (PySem.Str.ofString "list")) rfl)
  fr_max := He.free_ok Kh G (c.t.d.fact 36 (f := .free (PySem.Str.ofString "max")) rfl)
  fr_min := He.free_ok Kh G (c.t.d.fact 37 (f := .free (PySem.Str.ofString "min")) rfl)
  fr_range := He.free_ok Kh G (c.t.d.fact 38 (f := .free (PySem.Str.ofString "range")) rfl)
  fr_sorted := He.free_ok Kh G (c.t.d.fact 39 (f := .free (PySem.Str.ofString "sorted")) rfl)
  fr_sum := He.free_ok Kh G (c.t.d.fact 40 (f := .free (PySem.Str.ofString "sum")) rfl)
  fr_tuple := He.free_ok Kh G (c.t.d.fact 41 (f := .free (PySem.Str.ofString "tuple")) rfl)
  gl_STEPS := He.glo_ok Kh G (c.t.d.fact 29 (f := .glo (PySem.Str.ofString "STEPS")) rfl)
  tab_STEPS := tabsOk_ok c.more (c.t.tab 0 rfl)
  gl_times_itself := He.glo_ok Kh G (c.t.d.fact 0 (f := .glo (PySem.Str.ofString "times_itself")) rfl)
  fd_times_itself := c.t.d.def_ 0 (d := dOf (PySem.Str.ofString "times_itself") 1) rfl
  gl_falling_product := He.glo_ok Kh G (c.t.d.fact 1 (f := .glo (PySem.Str.ofString "falling_product")) rfl)
  fd_falling_product := c.t.d.def_ 1 (d := dOf (PySem.Str.ofString "falling_product") 2) rfl
  gl_rook_number := He.glo_ok Kh G (c.t.d.fact 2 (f := .glo (PySem.Str.ofString "rook_number")) rfl)
  fd_rook_number := c.t.d.def_ 2 (d := dOf (PySem.Str.ofString "rook_number") 3) rfl
  gl_rook_lots := He.glo_ok Kh G (c.t.d.fact 3 (f := .glo (PySem.Str.ofString "rook_lots")) rfl)
  fd_rook_lots := c.t.d.def_ 3 (d := dOf (PySem.Str.ofString "rook_lots") 4) rfl
  gl_rook_peaces := He.glo_ok Kh G (c.t.d.fact 4 (f := .glo (PySem.Str.ofString "rook_peaces")) rfl)
  fd_rook_peaces := c.t.d.def_ 4 (d := dOf (PySem.Str.ofString "rook_peaces") 5) rfl
  gl_watch_as_rooks := He.glo_ok Kh G (c.t.d.fact 5 (f := .glo (PySem.Str.ofString "watch_as_rooks")) rfl)
  fd_watch_as_rooks := c.t.d.def_ 5 (d := dOf (PySem.Str.ofString "watch_as_rooks") 6) rfl
  gl_all_squares := He.glo_ok Kh G (c.t.d.fact 6 (f := .glo (PySem.Str.ofString "all_squares")) rfl)
  fd_all_squares := c.t.d.def_ 6 (d := dOf (PySem.Str.ofString "all_squares") 9) rfl
  gl_how_far := He.glo_ok Kh G (c.t.d.fact 7 (f := .glo (PySem.Str.ofString "how_far")) rfl)
  fd_how_far := c.t.d.def_ 7 (d := dOf (PySem.Str.ofString "how_far") 10) rfl
  gl_reached_squares := He.glo_ok Kh G (c.t.d.fact 8 (f := .glo (PySem.Str.ofString "reached_squares")) rfl)
  fd_reached_squares := c.t.d.def_ 8 (d := dOf (PySem.Str.ofString "reached_squares") 11) rfl
  gl_watched_squares := He.glo_ok Kh G (c.t.d.fact 9 (f := .glo (PySem.Str.ofString "watched_squares")) rfl)
  fd_watched_squares := c.t.d.def_ 9 (d := dOf (PySem.Str.ofString "watched_squares") 12) rfl
  gl_is_watching_board := He.glo_ok Kh G (c.t.d.fact 10 (f := .glo (PySem.Str.ofString "is_watching_board")) rfl)
  fd_is_watching_board := c.t.d.def_ 10 (d := dOf (PySem.Str.ofString "is_watching_board") 13) rfl
  gl_is_at_peace := He.glo_ok Kh G (c.t.d.fact 11 (f := .glo (PySem.Str.ofString "is_at_peace")) rfl)
  fd_is_at_peace := c.t.d.def_ 11 (d := dOf (PySem.Str.ofString "is_at_peace") 14) rfl
  gl_next_lots := He.glo_ok Kh G (c.t.d.fact 12 (f := .glo (PySem.Str.ofString "next_lots")) rfl)
  fd_next_lots := c.t.d.def_ 12 (d := dOf (PySem.Str.ofString "next_lots") 15) rfl
  gl_least_lots := He.glo_ok Kh G (c.t.d.fact 13 (f := .glo (PySem.Str.ofString "least_lots")) rfl)
  fd_least_lots := c.t.d.def_ 13 (d := dOf (PySem.Str.ofString "least_lots") 16) rfl
  gl_least_pieces := He.glo_ok Kh G (c.t.d.fact 14 (f := .glo (PySem.Str.ofString "least_pieces")) rfl)
  fd_least_pieces := c.t.d.def_ 14 (d := dOf (PySem.Str.ofString "least_pieces") 17) rfl
  gl_peaceful_next := He.glo_ok Kh G (c.t.d.fact 15 (f := .glo (PySem.Str.ofString "peaceful_next")) rfl)
  fd_peaceful_next := c.t.d.def_ 15 (d := dOf (PySem.Str.ofString "peaceful_next") 18) rfl
  gl_most_at_peace := He.glo_ok Kh G (c.t.d.fact 16 (f := .glo (PySem.Str.ofString "most_at_peace")) rfl)
  fd_most_at_peace := c.t.d.def_ 16 (d := dOf (PySem.Str.ofString "most_at_peace") 19) rfl
  gl__law_source := He.glo_ok Kh G (c.t.d.fact 17 (f := .glo (PySem.Str.ofString "_law_source")) rfl)
  fd__law_source := c.t.d.def_ 17 (d := dOf (PySem.Str.ofString "_law_source") 21) rfl
  gl__law_pick := He.glo_ok Kh G (c.t.d.fact 18 (f := .glo (PySem.Str.ofString "_law_pick")) rfl)
  fd__law_pick := c.t.d.def_ 18 (d := dOf (PySem.Str.ofString "_law_pick") 22) rfl
  gl__law_of := He.glo_ok Kh G (c.t.d.fact 19 (f := .glo (PySem.Str.ofString "_law_of")) rfl)
  fd__law_of := c.t.d.def_ 19 (d := dOf (PySem.Str.ofString "_law_of") 23) rfl
  gl__law_mixed := He.glo_ok Kh G (c.t.d.fact 20 (f := .glo (PySem.Str.ofString "_law_mixed")) rfl)
  fd__law_mixed := c.t.d.def_ 20 (d := dOf (PySem.Str.ofString "_law_mixed") 24) rfl
  gl__law_all_lots := He.glo_ok Kh G (c.t.d.fact 21 (f := .glo (PySem.Str.ofString "_law_all_lots")) rfl)
  fd__law_all_lots := c.t.d.def_ 21 (d := dOf (PySem.Str.ofString "_law_all_lots") 25) rfl
  gl__law_choose := He.glo_ok Kh G (c.t.d.fact 22 (f := .glo (PySem.Str.ofString "_law_choose")) rfl)
  fd__law_choose := c.t.d.def_ 22 (d := dOf (PySem.Str.ofString "_law_choose") 26) rfl
  gl__law_squares := He.glo_ok Kh G (c.t.d.fact 23 (f := .glo (PySem.Str.ofString "_law_squares")) rfl)
  fd__law_squares := c.t.d.def_ 23 (d := dOf (PySem.Str.ofString "_law_squares") 27) rfl
  gl__law_all_watching := He.glo_ok Kh G (c.t.d.fact 24 (f := .glo (PySem.Str.ofString "_law_all_watching")) rfl)
  fd__law_all_watching := c.t.d.def_ 24 (d := dOf (PySem.Str.ofString "_law_all_watching") 28) rfl
  gl__law_arrangements := He.glo_ok Kh G (c.t.d.fact 25 (f := .glo (PySem.Str.ofString "_law_arrangements")) rfl)
  fd__law_arrangements := c.t.d.def_ 25 (d := dOf (PySem.Str.ofString "_law_arrangements") 29) rfl
  gl__law_within := He.glo_ok Kh G (c.t.d.fact 26 (f := .glo (PySem.Str.ofString "_law_within")) rfl)
  fd__law_within := c.t.d.def_ 26 (d := dOf (PySem.Str.ofString "_law_within") 30) rfl
  gl__law_hits_right := He.glo_ok Kh G (c.t.d.fact 27 (f := .glo (PySem.Str.ofString "_law_hits_right")) rfl)
  fd__law_hits_right := c.t.d.def_ 27 (d := dOf (PySem.Str.ofString "_law_hits_right") 31) rfl
  gl_law := He.glo_ok Kh G (c.t.d.fact 28 (f := .glo (PySem.Str.ofString "law")) rfl)
  fd_law := c.t.d.def_ 28 (d := dOf (PySem.Str.ofString "law") 32) rfl
theorem facts (HL : ∀ ns : List Int, ns.length ≤ 63 → ∃ o', F_law (.scr ns) [] = some (.fr (.bool true), o')) {P : Program} {w : World} {K : PySem.W.Frag} {h : Heap} {mg : Str → Option Value} {f : Addr} (Kh : K.In h) (G : h.Ns mainGlobals mg) (hfa : mg (PySem.Str.ofString "law") = some (.ref f)) (c : He.SaysX fa fn ts [] ex w h K) :
    ∃ fd : FuncData, (∀ (s : Shared) (v : Value), BindsTo s fd ⟨[v], []⟩ [(PySem.Str.ofString "script", v)]) ∧ ∀ base : Heap, K.In base → base.Ns mainGlobals mg → FnOk P w K mg base CX0 7 f fd [PySem.Str.ofString "script"] (DL.spLaw K) := by
  have hd := hd_of Kh G c
  have e := hfa.symm.trans hd.gl_law
  cases e
  obtain ⟨fd, F⟩ := hd.fd_law
  have b := FunD.bindsA (ps := [PySem.Str.ofString "script"]) F fun _ _ _ _ _ _ us hl => match us, hl with | [_], _ => rfl
  refine ⟨fd, fun s v => b s [v] rfl, fun base _ _ => ?_⟩
  exact law_of (fn_law hd F) HL
end LW

open PySem PySem.W PySem.Calls PyProof.Rows
theorem PySem.Challenge.cw_placesdefended_k29_whole_rooks_counted_b_holds : PySem.Challenge.rw_placesdefended_k29_whole_rooks_counted_b.Holds := by
  w_on; o_law
  refine HandSHeadRun.head_any (r := OpenLaw.row PySem.Challenge.rw_placesdefended_k29_whole_rooks_counted_b) (q := view (OpenLaw.row PySem.Challenge.rw_placesdefended_k29_whole_rooks_counted_b).prog [32]) (H := LW.hk) (ob := LW.ob) (M := 4000) (loose := LW.loose) (d := HandSHeadRun.topDef (OpenLaw.row PySem.Challenge.rw_placesdefended_k29_whole_rooks_counted_b).prog 32) (kwd := []) LW.ob_eq
    (by kernel_rfl) (fun s => by kernel_rfl) LW.run (by kernel_rfl) (by kernel_rfl) (by kernel_rfl) (by rfl) (by first | assumption | decide +kernel) (by decide +kernel) ⟨rfl, rfl, rfl, rfl, rfl, by decide +kernel⟩ ?hw ?hc
  case hw => w_witness2
  case hc =>
    refine L2.walk_ofE (l := PySem.Challenge.rw_placesdefended_k29_whole_rooks_counted_b) (n := 63) (k := 7) (x := PySem.Str.ofString "script") (CX := L2.CX0) rfl (by decide) (by kernel_rfl) ⟨rfl, by decide, by decide⟩ ?F (fun _ _ _ _ z => z)
    intro w mg fa h Y G hmg0
    obtain ⟨K, KX, c⟩ := Y
    have hmg : mg (PySem.Str.ofString "law") = some (.ref fa) := by
      have e : (HandSHeadRun.topDef (OpenLaw.row PySem.Challenge.rw_placesdefended_k29_whole_rooks_counted_b).prog 32).name = PySem.Str.ofString "law" := by kernel_rfl
      rw [← e]
      exact hmg0
    obtain ⟨fd, hb, hF⟩ := LW.facts LW.law_holds (P := (PySem.Challenge.rw_placesdefended_k29_whole_rooks_counted_b).prog) (w := w) KX G hmg c
    exact ⟨K, fd, DL.spLaw K, KX, hb, fun H a ns hl _ hS => ⟨a, ns, rfl, hS, hl, fun _ => rfl⟩, hF⟩

